/-
  Contracts of functions of the program, its reference and the laws: what each returns; the conditions stand in each contract.
-/
import Derived.Test.YtlpapgmbknkmaaaGreatFnB
set_option linter.unusedSimpArgs false
set_option linter.unusedVariables false
set_option maxRecDepth 100000
set_option maxHeartbeats 2000000
namespace Go.Eng
open Go Go.Proofs
attribute [push_cast] List.length_set
instance g91 (l : List Int) (k : Int) : Fc Tryz.prog 91 [⟨.one, [.own 1 (rowsI l)]⟩, i64 k] [] (l.length ≤ 2000000 ∧ 0 ≤ k ∧ k ≤ 50000000) (i64 (k + 1 * l.length)) [⟨.one, [.own 1 (rowsI (markG id 1 k l.length))]⟩, i64 k] [] := by
  refine F_of m91 rfl fun hyp => ?_
  repeat' (first | (with_reducible intro h; (try simp only [h]); (try simp only [HS] at h)) | ((with_reducible apply scEnd_of); exact rfl; exact rfl) | ((with_reducible apply ScW_of); rfl; rfl; trivial) | with_reducible first | apply Br_of | refine O1 ?_ | refine O2 ?_ | refine O3 ?_ | refine O4 ?_ | refine O5 ?_ | refine CI ?_ | refine CJ ?_ | refine CQ ?_ | simp (maxSteps := 1000000) (disch := omega) only [go_sem])
  refine LoopK_of (α := Nat) (fun p => ⟨[(5, i64 p), (1, i64 (k + 1 * (p : Int))), (0, ⟨.one, [.al ⟨.gho 0 0, []⟩]⟩)], [], [(0, ⟨.one, [.own 1 (rowsI (markG id 1 k p ++ l.drop p))]⟩), (1, i64 k)]⟩) (fun p => p ≤ l.length) (fun p => l.length - p) 0 ?h0 (Nat.zero_le _) ?_
  case h0 => simp only [markG, List.nil_append, List.drop_zero, Int.natCast_zero, Int.mul_zero, Int.add_zero]; rfl
  intro i hi
  have hlen : (markG id 1 k i ++ l.drop i).length = l.length := by rw [List.length_append, markG_len, List.length_drop]; omega
  repeat' (first | (with_reducible intro h; (try simp only [h]); (try simp only [HS] at h)) | ((with_reducible apply scEnd_of); exact rfl; exact rfl) | ((with_reducible apply ScW_of); rfl; rfl; trivial) | with_reducible first | apply Br_of | refine O1 ?_ | refine O2 ?_ | refine O3 ?_ | refine O4 ?_ | refine O5 ?_ | refine CI ?_ | refine CJ ?_ | refine CQ ?_ | simp (maxSteps := 1000000) (disch := omega) only [go_sem, hlen, List.length_set])
  all_goals (try (exfalso; omega))
  · have e := markG_step (f := id) (w := 1) (k := k) (l := l) 0 (show i < l.length by omega)
    simp only [id] at e
    rw [e]
    rw [show k + 1 * (i : Int) + 1 = k + 1 * ((i + 1 : Nat) : Int) by omega]
    exact LoopQ_of (i + 1) rfl (by omega) (by omega)
  · have e : i = l.length := by omega
    subst e
    rw [List.drop_length, List.append_nil]
def LegV.mk1 (k : Int) : LegV := ⟨k, k + 1, ⟨k + 1 + 1, markT (k + 1 + 1 + 1), k + 1 + 1 + 1 + 1, k + 1 + 1 + 1 + 1 + 1, markT (k + 1 + 1 + 1 + 1 + 1 + 1)⟩, ⟨k + 1 + 1 + 1 + 1 + 1 + 1 + 1, k + 1 + 1 + 1 + 1 + 1 + 1 + 1 + 1, k + 1 + 1 + 1 + 1 + 1 + 1 + 1 + 1 + 1, markT (k + 1 + 1 + 1 + 1 + 1 + 1 + 1 + 1 + 1 + 1)⟩⟩
@[go_sem] theorem LegV.set0 {l : List LegV} {i : Nat} {v : Int} (h : i < l.length) : setCells 11 (rows l) (i * 11) [.int .i64 v] = rows (l.set i (⟨v, (l.getD i default).Serial, (l.getD i default).Op, (l.getD i default).Answer⟩ : LegV)) := rows_part0 (x := ⟨v, (l.getD i default).Serial, (l.getD i default).Op, (l.getD i default).Answer⟩) rfl rfl (Nat.le_of_ble_eq_true rfl) h
@[go_sem] theorem LegV.set1 {l : List LegV} {i : Nat} {v : Int} (h : i < l.length) : setCells 11 (rows l) (i * 11 + 1) [.int .i64 v] = rows (l.set i (⟨(l.getD i default).Group, v, (l.getD i default).Op, (l.getD i default).Answer⟩ : LegV)) := rows_part (x := ⟨(l.getD i default).Group, v, (l.getD i default).Op, (l.getD i default).Answer⟩) rfl rfl (Nat.le_of_ble_eq_true rfl) h
@[go_sem] theorem LegV.set2 {l : List LegV} {i : Nat} {v : Int} (h : i < l.length) : setCells 11 (rows l) (i * 11 + 2) [.int .i64 v] = rows (l.set i (⟨(l.getD i default).Group, (l.getD i default).Serial, ⟨v, (l.getD i default).Op.key, (l.getD i default).Op.f, (l.getD i default).Op.t, (l.getD i default).Op.d⟩, (l.getD i default).Answer⟩ : LegV)) := rows_part (x := ⟨(l.getD i default).Group, (l.getD i default).Serial, ⟨v, (l.getD i default).Op.key, (l.getD i default).Op.f, (l.getD i default).Op.t, (l.getD i default).Op.d⟩, (l.getD i default).Answer⟩) rfl rfl (Nat.le_of_ble_eq_true rfl) h
@[go_sem] theorem LegV.set3 {l : List LegV} {i : Nat} {v : ByteArray} (h : i < l.length) : setCells 11 (rows l) (i * 11 + 3) [.str v] = rows (l.set i (⟨(l.getD i default).Group, (l.getD i default).Serial, ⟨(l.getD i default).Op.k, v, (l.getD i default).Op.f, (l.getD i default).Op.t, (l.getD i default).Op.d⟩, (l.getD i default).Answer⟩ : LegV)) := rows_part (x := ⟨(l.getD i default).Group, (l.getD i default).Serial, ⟨(l.getD i default).Op.k, v, (l.getD i default).Op.f, (l.getD i default).Op.t, (l.getD i default).Op.d⟩, (l.getD i default).Answer⟩) rfl rfl (Nat.le_of_ble_eq_true rfl) h
@[go_sem] theorem LegV.set4 {l : List LegV} {i : Nat} {v : Int} (h : i < l.length) : setCells 11 (rows l) (i * 11 + 4) [.int .i64 v] = rows (l.set i (⟨(l.getD i default).Group, (l.getD i default).Serial, ⟨(l.getD i default).Op.k, (l.getD i default).Op.key, v, (l.getD i default).Op.t, (l.getD i default).Op.d⟩, (l.getD i default).Answer⟩ : LegV)) := rows_part (x := ⟨(l.getD i default).Group, (l.getD i default).Serial, ⟨(l.getD i default).Op.k, (l.getD i default).Op.key, v, (l.getD i default).Op.t, (l.getD i default).Op.d⟩, (l.getD i default).Answer⟩) rfl rfl (Nat.le_of_ble_eq_true rfl) h
@[go_sem] theorem LegV.set5 {l : List LegV} {i : Nat} {v : Int} (h : i < l.length) : setCells 11 (rows l) (i * 11 + 5) [.int .i64 v] = rows (l.set i (⟨(l.getD i default).Group, (l.getD i default).Serial, ⟨(l.getD i default).Op.k, (l.getD i default).Op.key, (l.getD i default).Op.f, v, (l.getD i default).Op.d⟩, (l.getD i default).Answer⟩ : LegV)) := rows_part (x := ⟨(l.getD i default).Group, (l.getD i default).Serial, ⟨(l.getD i default).Op.k, (l.getD i default).Op.key, (l.getD i default).Op.f, v, (l.getD i default).Op.d⟩, (l.getD i default).Answer⟩) rfl rfl (Nat.le_of_ble_eq_true rfl) h
@[go_sem] theorem LegV.set6 {l : List LegV} {i : Nat} {v : ByteArray} (h : i < l.length) : setCells 11 (rows l) (i * 11 + 6) [.str v] = rows (l.set i (⟨(l.getD i default).Group, (l.getD i default).Serial, ⟨(l.getD i default).Op.k, (l.getD i default).Op.key, (l.getD i default).Op.f, (l.getD i default).Op.t, v⟩, (l.getD i default).Answer⟩ : LegV)) := rows_part (x := ⟨(l.getD i default).Group, (l.getD i default).Serial, ⟨(l.getD i default).Op.k, (l.getD i default).Op.key, (l.getD i default).Op.f, (l.getD i default).Op.t, v⟩, (l.getD i default).Answer⟩) rfl rfl (Nat.le_of_ble_eq_true rfl) h
@[go_sem] theorem LegV.set7 {l : List LegV} {i : Nat} {v : Int} (h : i < l.length) : setCells 11 (rows l) (i * 11 + 7) [.int .i64 v] = rows (l.set i (⟨(l.getD i default).Group, (l.getD i default).Serial, (l.getD i default).Op, ⟨v, (l.getD i default).Answer.i, (l.getD i default).Answer.m, (l.getD i default).Answer.d⟩⟩ : LegV)) := rows_part (x := ⟨(l.getD i default).Group, (l.getD i default).Serial, (l.getD i default).Op, ⟨v, (l.getD i default).Answer.i, (l.getD i default).Answer.m, (l.getD i default).Answer.d⟩⟩) rfl rfl (Nat.le_of_ble_eq_true rfl) h
@[go_sem] theorem LegV.set8 {l : List LegV} {i : Nat} {v : Int} (h : i < l.length) : setCells 11 (rows l) (i * 11 + 8) [.int .i64 v] = rows (l.set i (⟨(l.getD i default).Group, (l.getD i default).Serial, (l.getD i default).Op, ⟨(l.getD i default).Answer.c, v, (l.getD i default).Answer.m, (l.getD i default).Answer.d⟩⟩ : LegV)) := rows_part (x := ⟨(l.getD i default).Group, (l.getD i default).Serial, (l.getD i default).Op, ⟨(l.getD i default).Answer.c, v, (l.getD i default).Answer.m, (l.getD i default).Answer.d⟩⟩) rfl rfl (Nat.le_of_ble_eq_true rfl) h
@[go_sem] theorem LegV.set9 {l : List LegV} {i : Nat} {v : Int} (h : i < l.length) : setCells 11 (rows l) (i * 11 + 9) [.int .i64 v] = rows (l.set i (⟨(l.getD i default).Group, (l.getD i default).Serial, (l.getD i default).Op, ⟨(l.getD i default).Answer.c, (l.getD i default).Answer.i, v, (l.getD i default).Answer.d⟩⟩ : LegV)) := rows_part (x := ⟨(l.getD i default).Group, (l.getD i default).Serial, (l.getD i default).Op, ⟨(l.getD i default).Answer.c, (l.getD i default).Answer.i, v, (l.getD i default).Answer.d⟩⟩) rfl rfl (Nat.le_of_ble_eq_true rfl) h
@[go_sem] theorem LegV.set10 {l : List LegV} {i : Nat} {v : ByteArray} (h : i < l.length) : setCells 11 (rows l) (i * 11 + 10) [.str v] = rows (l.set i (⟨(l.getD i default).Group, (l.getD i default).Serial, (l.getD i default).Op, ⟨(l.getD i default).Answer.c, (l.getD i default).Answer.i, (l.getD i default).Answer.m, v⟩⟩ : LegV)) := rows_part (x := ⟨(l.getD i default).Group, (l.getD i default).Serial, (l.getD i default).Op, ⟨(l.getD i default).Answer.c, (l.getD i default).Answer.i, (l.getD i default).Answer.m, v⟩⟩) rfl rfl (Nat.le_of_ble_eq_true rfl) h
@[go_sem] theorem LegV.sst0 {l : List LegV} {i : Nat} {x : LegV} {v : Int} (h : i < l.length) : setCells 11 (rows (l.set i x)) (i * 11) [.int .i64 v] = rows (l.set i (⟨v, x.Serial, x.Op, x.Answer⟩ : LegV)) := by rw [LegV.set0 (by rw [List.length_set]; exact h), set_getDz default h, List.set_set]
@[go_sem] theorem LegV.sst1 {l : List LegV} {i : Nat} {x : LegV} {v : Int} (h : i < l.length) : setCells 11 (rows (l.set i x)) (i * 11 + 1) [.int .i64 v] = rows (l.set i (⟨x.Group, v, x.Op, x.Answer⟩ : LegV)) := by rw [LegV.set1 (by rw [List.length_set]; exact h), set_getDz default h, List.set_set]
@[go_sem] theorem LegV.sst2 {l : List LegV} {i : Nat} {x : LegV} {v : Int} (h : i < l.length) : setCells 11 (rows (l.set i x)) (i * 11 + 2) [.int .i64 v] = rows (l.set i (⟨x.Group, x.Serial, ⟨v, x.Op.key, x.Op.f, x.Op.t, x.Op.d⟩, x.Answer⟩ : LegV)) := by rw [LegV.set2 (by rw [List.length_set]; exact h), set_getDz default h, List.set_set]
@[go_sem] theorem LegV.sst3 {l : List LegV} {i : Nat} {x : LegV} {v : ByteArray} (h : i < l.length) : setCells 11 (rows (l.set i x)) (i * 11 + 3) [.str v] = rows (l.set i (⟨x.Group, x.Serial, ⟨x.Op.k, v, x.Op.f, x.Op.t, x.Op.d⟩, x.Answer⟩ : LegV)) := by rw [LegV.set3 (by rw [List.length_set]; exact h), set_getDz default h, List.set_set]
@[go_sem] theorem LegV.sst4 {l : List LegV} {i : Nat} {x : LegV} {v : Int} (h : i < l.length) : setCells 11 (rows (l.set i x)) (i * 11 + 4) [.int .i64 v] = rows (l.set i (⟨x.Group, x.Serial, ⟨x.Op.k, x.Op.key, v, x.Op.t, x.Op.d⟩, x.Answer⟩ : LegV)) := by rw [LegV.set4 (by rw [List.length_set]; exact h), set_getDz default h, List.set_set]
@[go_sem] theorem LegV.sst5 {l : List LegV} {i : Nat} {x : LegV} {v : Int} (h : i < l.length) : setCells 11 (rows (l.set i x)) (i * 11 + 5) [.int .i64 v] = rows (l.set i (⟨x.Group, x.Serial, ⟨x.Op.k, x.Op.key, x.Op.f, v, x.Op.d⟩, x.Answer⟩ : LegV)) := by rw [LegV.set5 (by rw [List.length_set]; exact h), set_getDz default h, List.set_set]
@[go_sem] theorem LegV.sst6 {l : List LegV} {i : Nat} {x : LegV} {v : ByteArray} (h : i < l.length) : setCells 11 (rows (l.set i x)) (i * 11 + 6) [.str v] = rows (l.set i (⟨x.Group, x.Serial, ⟨x.Op.k, x.Op.key, x.Op.f, x.Op.t, v⟩, x.Answer⟩ : LegV)) := by rw [LegV.set6 (by rw [List.length_set]; exact h), set_getDz default h, List.set_set]
@[go_sem] theorem LegV.sst7 {l : List LegV} {i : Nat} {x : LegV} {v : Int} (h : i < l.length) : setCells 11 (rows (l.set i x)) (i * 11 + 7) [.int .i64 v] = rows (l.set i (⟨x.Group, x.Serial, x.Op, ⟨v, x.Answer.i, x.Answer.m, x.Answer.d⟩⟩ : LegV)) := by rw [LegV.set7 (by rw [List.length_set]; exact h), set_getDz default h, List.set_set]
@[go_sem] theorem LegV.sst8 {l : List LegV} {i : Nat} {x : LegV} {v : Int} (h : i < l.length) : setCells 11 (rows (l.set i x)) (i * 11 + 8) [.int .i64 v] = rows (l.set i (⟨x.Group, x.Serial, x.Op, ⟨x.Answer.c, v, x.Answer.m, x.Answer.d⟩⟩ : LegV)) := by rw [LegV.set8 (by rw [List.length_set]; exact h), set_getDz default h, List.set_set]
@[go_sem] theorem LegV.sst9 {l : List LegV} {i : Nat} {x : LegV} {v : Int} (h : i < l.length) : setCells 11 (rows (l.set i x)) (i * 11 + 9) [.int .i64 v] = rows (l.set i (⟨x.Group, x.Serial, x.Op, ⟨x.Answer.c, x.Answer.i, v, x.Answer.d⟩⟩ : LegV)) := by rw [LegV.set9 (by rw [List.length_set]; exact h), set_getDz default h, List.set_set]
@[go_sem] theorem LegV.sst10 {l : List LegV} {i : Nat} {x : LegV} {v : ByteArray} (h : i < l.length) : setCells 11 (rows (l.set i x)) (i * 11 + 10) [.str v] = rows (l.set i (⟨x.Group, x.Serial, x.Op, ⟨x.Answer.c, x.Answer.i, x.Answer.m, v⟩⟩ : LegV)) := by rw [LegV.set10 (by rw [List.length_set]; exact h), set_getDz default h, List.set_set]
instance g92 (l : List LegV) (k : Int) : Fc Tryz.prog 92 [⟨.one, [.own 11 (rows l)]⟩, i64 k] [] (l.length ≤ 2000000 ∧ 0 ≤ k ∧ k ≤ 50000000) (i64 (k + 11 * l.length)) [⟨.one, [.own 11 (rows (markG LegV.mk1 11 k l.length))]⟩, i64 k] [] := by
  refine F_of m92 rfl fun hyp => ?_
  repeat' (first | (with_reducible intro h; (try simp only [h]); (try simp only [HS] at h)) | ((with_reducible apply scEnd_of); exact rfl; exact rfl) | ((with_reducible apply ScW_of); rfl; rfl; trivial) | with_reducible first | apply Br_of | refine O1 ?_ | refine O2 ?_ | refine O3 ?_ | refine O4 ?_ | refine O5 ?_ | refine CI ?_ | refine CJ ?_ | refine CQ ?_ | simp (maxSteps := 1000000) (disch := omega) only [go_sem])
  refine LoopK_of (α := Nat) (fun p => ⟨[(5, i64 p), (1, i64 (k + 11 * (p : Int))), (0, ⟨.one, [.al ⟨.gho 0 0, []⟩]⟩)], [], [(0, ⟨.one, [.own 11 (rows (markG LegV.mk1 11 k p ++ l.drop p))]⟩), (1, i64 k)]⟩) (fun p => p ≤ l.length) (fun p => l.length - p) 0 ?h0 (Nat.zero_le _) ?_
  case h0 => simp only [markG, List.nil_append, List.drop_zero, Int.natCast_zero, Int.mul_zero, Int.add_zero]; rfl
  intro i hi
  have hlen : (markG LegV.mk1 11 k i ++ l.drop i).length = l.length := by rw [List.length_append, markG_len, List.length_drop]; omega
  repeat' (first | (with_reducible intro h; (try simp only [h]); (try simp only [HS] at h)) | ((with_reducible apply scEnd_of); exact rfl; exact rfl) | ((with_reducible apply ScW_of); rfl; rfl; trivial) | with_reducible first | apply Br_of | refine O1 ?_ | refine O2 ?_ | refine O3 ?_ | refine O4 ?_ | refine O5 ?_ | refine CI ?_ | refine CJ ?_ | refine CQ ?_ | simp (maxSteps := 1000000) (disch := omega) only [go_sem, hlen, List.length_set, set_getDz, List.set_set])
  all_goals (try (exfalso; omega))
  · have e := markG_step (f := LegV.mk1) (w := 11) (k := k) (l := l) default (show i < l.length by omega)
    simp only [LegV.mk1] at e
    rw [e]
    rw [show k + 11 * (i : Int) + 1 + 1 + 1 + 1 + 1 + 1 + 1 + 1 + 1 + 1 + 1 = k + 11 * ((i + 1 : Nat) : Int) by omega]
    exact LoopQ_of (i + 1) rfl (by omega) (by omega)
  · have e : i = l.length := by omega
    subst e
    rw [List.drop_length, List.append_nil]
def TodoV.mk1 (k : Int) : TodoV := ⟨k, ⟨k + 1, markT (k + 1 + 1), k + 1 + 1 + 1, k + 1 + 1 + 1 + 1, markT (k + 1 + 1 + 1 + 1 + 1)⟩⟩
@[go_sem] theorem TodoV.set0 {l : List TodoV} {i : Nat} {v : Int} (h : i < l.length) : setCells 6 (rows l) (i * 6) [.int .i64 v] = rows (l.set i (⟨v, (l.getD i default).Op⟩ : TodoV)) := rows_part0 (x := ⟨v, (l.getD i default).Op⟩) rfl rfl (Nat.le_of_ble_eq_true rfl) h
@[go_sem] theorem TodoV.set1 {l : List TodoV} {i : Nat} {v : Int} (h : i < l.length) : setCells 6 (rows l) (i * 6 + 1) [.int .i64 v] = rows (l.set i (⟨(l.getD i default).Group, ⟨v, (l.getD i default).Op.key, (l.getD i default).Op.f, (l.getD i default).Op.t, (l.getD i default).Op.d⟩⟩ : TodoV)) := rows_part (x := ⟨(l.getD i default).Group, ⟨v, (l.getD i default).Op.key, (l.getD i default).Op.f, (l.getD i default).Op.t, (l.getD i default).Op.d⟩⟩) rfl rfl (Nat.le_of_ble_eq_true rfl) h
@[go_sem] theorem TodoV.set2 {l : List TodoV} {i : Nat} {v : ByteArray} (h : i < l.length) : setCells 6 (rows l) (i * 6 + 2) [.str v] = rows (l.set i (⟨(l.getD i default).Group, ⟨(l.getD i default).Op.k, v, (l.getD i default).Op.f, (l.getD i default).Op.t, (l.getD i default).Op.d⟩⟩ : TodoV)) := rows_part (x := ⟨(l.getD i default).Group, ⟨(l.getD i default).Op.k, v, (l.getD i default).Op.f, (l.getD i default).Op.t, (l.getD i default).Op.d⟩⟩) rfl rfl (Nat.le_of_ble_eq_true rfl) h
@[go_sem] theorem TodoV.set3 {l : List TodoV} {i : Nat} {v : Int} (h : i < l.length) : setCells 6 (rows l) (i * 6 + 3) [.int .i64 v] = rows (l.set i (⟨(l.getD i default).Group, ⟨(l.getD i default).Op.k, (l.getD i default).Op.key, v, (l.getD i default).Op.t, (l.getD i default).Op.d⟩⟩ : TodoV)) := rows_part (x := ⟨(l.getD i default).Group, ⟨(l.getD i default).Op.k, (l.getD i default).Op.key, v, (l.getD i default).Op.t, (l.getD i default).Op.d⟩⟩) rfl rfl (Nat.le_of_ble_eq_true rfl) h
@[go_sem] theorem TodoV.set4 {l : List TodoV} {i : Nat} {v : Int} (h : i < l.length) : setCells 6 (rows l) (i * 6 + 4) [.int .i64 v] = rows (l.set i (⟨(l.getD i default).Group, ⟨(l.getD i default).Op.k, (l.getD i default).Op.key, (l.getD i default).Op.f, v, (l.getD i default).Op.d⟩⟩ : TodoV)) := rows_part (x := ⟨(l.getD i default).Group, ⟨(l.getD i default).Op.k, (l.getD i default).Op.key, (l.getD i default).Op.f, v, (l.getD i default).Op.d⟩⟩) rfl rfl (Nat.le_of_ble_eq_true rfl) h
@[go_sem] theorem TodoV.set5 {l : List TodoV} {i : Nat} {v : ByteArray} (h : i < l.length) : setCells 6 (rows l) (i * 6 + 5) [.str v] = rows (l.set i (⟨(l.getD i default).Group, ⟨(l.getD i default).Op.k, (l.getD i default).Op.key, (l.getD i default).Op.f, (l.getD i default).Op.t, v⟩⟩ : TodoV)) := rows_part (x := ⟨(l.getD i default).Group, ⟨(l.getD i default).Op.k, (l.getD i default).Op.key, (l.getD i default).Op.f, (l.getD i default).Op.t, v⟩⟩) rfl rfl (Nat.le_of_ble_eq_true rfl) h
@[go_sem] theorem TodoV.sst0 {l : List TodoV} {i : Nat} {x : TodoV} {v : Int} (h : i < l.length) : setCells 6 (rows (l.set i x)) (i * 6) [.int .i64 v] = rows (l.set i (⟨v, x.Op⟩ : TodoV)) := by rw [TodoV.set0 (by rw [List.length_set]; exact h), set_getDz default h, List.set_set]
@[go_sem] theorem TodoV.sst1 {l : List TodoV} {i : Nat} {x : TodoV} {v : Int} (h : i < l.length) : setCells 6 (rows (l.set i x)) (i * 6 + 1) [.int .i64 v] = rows (l.set i (⟨x.Group, ⟨v, x.Op.key, x.Op.f, x.Op.t, x.Op.d⟩⟩ : TodoV)) := by rw [TodoV.set1 (by rw [List.length_set]; exact h), set_getDz default h, List.set_set]
@[go_sem] theorem TodoV.sst2 {l : List TodoV} {i : Nat} {x : TodoV} {v : ByteArray} (h : i < l.length) : setCells 6 (rows (l.set i x)) (i * 6 + 2) [.str v] = rows (l.set i (⟨x.Group, ⟨x.Op.k, v, x.Op.f, x.Op.t, x.Op.d⟩⟩ : TodoV)) := by rw [TodoV.set2 (by rw [List.length_set]; exact h), set_getDz default h, List.set_set]
@[go_sem] theorem TodoV.sst3 {l : List TodoV} {i : Nat} {x : TodoV} {v : Int} (h : i < l.length) : setCells 6 (rows (l.set i x)) (i * 6 + 3) [.int .i64 v] = rows (l.set i (⟨x.Group, ⟨x.Op.k, x.Op.key, v, x.Op.t, x.Op.d⟩⟩ : TodoV)) := by rw [TodoV.set3 (by rw [List.length_set]; exact h), set_getDz default h, List.set_set]
@[go_sem] theorem TodoV.sst4 {l : List TodoV} {i : Nat} {x : TodoV} {v : Int} (h : i < l.length) : setCells 6 (rows (l.set i x)) (i * 6 + 4) [.int .i64 v] = rows (l.set i (⟨x.Group, ⟨x.Op.k, x.Op.key, x.Op.f, v, x.Op.d⟩⟩ : TodoV)) := by rw [TodoV.set4 (by rw [List.length_set]; exact h), set_getDz default h, List.set_set]
@[go_sem] theorem TodoV.sst5 {l : List TodoV} {i : Nat} {x : TodoV} {v : ByteArray} (h : i < l.length) : setCells 6 (rows (l.set i x)) (i * 6 + 5) [.str v] = rows (l.set i (⟨x.Group, ⟨x.Op.k, x.Op.key, x.Op.f, x.Op.t, v⟩⟩ : TodoV)) := by rw [TodoV.set5 (by rw [List.length_set]; exact h), set_getDz default h, List.set_set]
instance g93 (l : List TodoV) (k : Int) : Fc Tryz.prog 93 [⟨.one, [.own 6 (rows l)]⟩, i64 k] [] (l.length ≤ 2000000 ∧ 0 ≤ k ∧ k ≤ 50000000) (i64 (k + 6 * l.length)) [⟨.one, [.own 6 (rows (markG TodoV.mk1 6 k l.length))]⟩, i64 k] [] := by
  refine F_of m93 rfl fun hyp => ?_
  repeat' (first | (with_reducible intro h; (try simp only [h]); (try simp only [HS] at h)) | ((with_reducible apply scEnd_of); exact rfl; exact rfl) | ((with_reducible apply ScW_of); rfl; rfl; trivial) | with_reducible first | apply Br_of | refine O1 ?_ | refine O2 ?_ | refine O3 ?_ | refine O4 ?_ | refine O5 ?_ | refine CI ?_ | refine CJ ?_ | refine CQ ?_ | simp (maxSteps := 1000000) (disch := omega) only [go_sem])
  refine LoopK_of (α := Nat) (fun p => ⟨[(5, i64 p), (1, i64 (k + 6 * (p : Int))), (0, ⟨.one, [.al ⟨.gho 0 0, []⟩]⟩)], [], [(0, ⟨.one, [.own 6 (rows (markG TodoV.mk1 6 k p ++ l.drop p))]⟩), (1, i64 k)]⟩) (fun p => p ≤ l.length) (fun p => l.length - p) 0 ?h0 (Nat.zero_le _) ?_
  case h0 => simp only [markG, List.nil_append, List.drop_zero, Int.natCast_zero, Int.mul_zero, Int.add_zero]; rfl
  intro i hi
  have hlen : (markG TodoV.mk1 6 k i ++ l.drop i).length = l.length := by rw [List.length_append, markG_len, List.length_drop]; omega
  repeat' (first | (with_reducible intro h; (try simp only [h]); (try simp only [HS] at h)) | ((with_reducible apply scEnd_of); exact rfl; exact rfl) | ((with_reducible apply ScW_of); rfl; rfl; trivial) | with_reducible first | apply Br_of | refine O1 ?_ | refine O2 ?_ | refine O3 ?_ | refine O4 ?_ | refine O5 ?_ | refine CI ?_ | refine CJ ?_ | refine CQ ?_ | simp (maxSteps := 1000000) (disch := omega) only [go_sem, hlen, List.length_set, set_getDz, List.set_set])
  all_goals (try (exfalso; omega))
  · have e := markG_step (f := TodoV.mk1) (w := 6) (k := k) (l := l) default (show i < l.length by omega)
    simp only [TodoV.mk1] at e
    rw [e]
    rw [show k + 6 * (i : Int) + 1 + 1 + 1 + 1 + 1 + 1 = k + 6 * ((i + 1 : Nat) : Int) by omega]
    exact LoopQ_of (i + 1) rfl (by omega) (by omega)
  · have e : i = l.length := by omega
    subst e
    rw [List.drop_length, List.append_nil]
open Classical in
noncomputable def sayM (id : Int) (ser : List Int) (busy : Bool) (c : CallV) (b : Int) (legs : List LegV) (todo : List TodoV) (t : Int) : Int × MsgV × Bool :=
  if rtP id ser busy c b legs todo ∧ busy = true ∧ 0 ≤ t ∧ t ≤ 4 then ((todo.getD 0 default).Group, ⟨6, 10 + id, t, 0, ser.getD (todo.getD 0 default).Group.toNat 0, 0, 0, false, [], opS (todo.getD 0 default).Op⟩, true) else (0, MsgV.zero, false)
theorem sayM_no {id : Int} {ser : List Int} {busy : Bool} {c : CallV} {b : Int} {legs : List LegV} {todo : List TodoV} {t : Int} (h : ¬(rtP id ser busy c b legs todo ∧ busy = true ∧ 0 ≤ t ∧ t ≤ 4)) : sayM id ser busy c b legs todo t = (0, MsgV.zero, false) := if_neg h
instance g22 (a0 : Int) (a1 : List Int) (a2 : Bool) (a3 : Int) (a4 : ByteArray) (a5 a6 : Int) (a7 : ByteArray) (a8 : Int) (a9 : List LegV) (a10 : List TodoV) (t : Int) : Fs 22 [⟨.agg, [.int .i64 a0, .ro 1 (rowsI a1), .bool a2, .int .i64 a3, .str a4, .int .i64 a5, .int .i64 a6, .str a7, .int .i64 a8, .ro 11 (rows a9), .ro 6 (rows a10)]⟩, i64 t] (a1.length ≤ 9223372036854775807 ∧ a4.size ≤ 9223372036854775807 ∧ a9.length ≤ 1048576 ∧ a10.length ≤ 1048576 ∧ (∀ e ∈ a9, e.fit) ∧ (∀ e ∈ a10, e.mz ≤ 1048576)) (⟨.tup [(false, 1), (true, 10), (false, 1)], [.int .i64 (sayM a0 a1 a2 ⟨a3, a4, a5, a6, a7⟩ a8 a9 a10 t).1, .int .i64 (sayM a0 a1 a2 ⟨a3, a4, a5, a6, a7⟩ a8 a9 a10 t).2.1.k, .int .i64 (sayM a0 a1 a2 ⟨a3, a4, a5, a6, a7⟩ a8 a9 a10 t).2.1.fr, .int .i64 (sayM a0 a1 a2 ⟨a3, a4, a5, a6, a7⟩ a8 a9 a10 t).2.1.to, .int .i64 (sayM a0 a1 a2 ⟨a3, a4, a5, a6, a7⟩ a8 a9 a10 t).2.1.tm, .int .i64 (sayM a0 a1 a2 ⟨a3, a4, a5, a6, a7⟩ a8 a9 a10 t).2.1.ix, .int .i64 (sayM a0 a1 a2 ⟨a3, a4, a5, a6, a7⟩ a8 a9 a10 t).2.1.it, .int .i64 (sayM a0 a1 a2 ⟨a3, a4, a5, a6, a7⟩ a8 a9 a10 t).2.1.cm, .bool (sayM a0 a1 a2 ⟨a3, a4, a5, a6, a7⟩ a8 a9 a10 t).2.1.y, .own 2 (rowsE (sayM a0 a1 a2 ⟨a3, a4, a5, a6, a7⟩ a8 a9 a10 t).2.1.e), .str (sayM a0 a1 a2 ⟨a3, a4, a5, a6, a7⟩ a8 a9 a10 t).2.1.d, .bool (sayM a0 a1 a2 ⟨a3, a4, a5, a6, a7⟩ a8 a9 a10 t).2.2]⟩) := by
  refine F_of m22 rfl fun hyp => ?_
  obtain ⟨q0, q1, q2, q3, q4, q6⟩ := id hyp
  have q5 : ∀ e ∈ a10, e.fit := fun e he => by have := q6 e he; unfold TodoV.mz at this; unfold TodoV.fit; omega
  cases a2 with
  | false =>
    repeat' (first | (with_reducible intro h; (try simp only [h]); (try simp only [HS] at h)) | ((with_reducible apply scEnd_of); exact rfl; exact rfl) | ((with_reducible apply ScW_of); rfl; rfl; trivial) | with_reducible first | apply Br_of | refine O1 ?_ | refine O2 ?_ | refine O3 ?_ | refine O4 ?_ | refine O5 ?_ | refine CI ?_ | refine CJ ?_ | refine CQ ?_ | simp (maxSteps := 1000000) (disch := omega) only [go_sem])
    all_goals (try (exfalso; omega))
    all_goals (rw [sayM_no (fun h => absurd h.2.1 (by simp))]; rfl)
  | true =>
    by_cases hr : rtP a0 a1 true ⟨a3, a4, a5, a6, a7⟩ a8 a9 a10
    · have hi := ifB_t hr
      obtain ⟨r1, r2, r3, r4, r5⟩ := id hr
      obtain ⟨w1, w2, w3, w4⟩ : true = true ∧ _ := by rcases r5 with h | h; exact absurd h.1 (by simp); exact h
      have hp : 0 < a10.length := by have := w4.1; rw [ne_eq, nil_iff] at this; omega
      have hg := TodoV.ok_grp (w4.2.2.2.1 _ (getD_mem default hp)).1
      have hs := q6 _ (getD_mem default hp)
      simp only [TodoV.mz] at hs
      repeat' (first | (with_reducible intro h; (try simp only [h]); (try simp only [HS] at h)) | ((with_reducible apply scEnd_of); exact rfl; exact rfl) | ((with_reducible apply ScW_of); rfl; rfl; trivial) | with_reducible first | apply Br_of | refine O1 ?_ | refine O2 ?_ | refine O3 ?_ | refine O4 ?_ | refine O5 ?_ | refine CI ?_ | refine CJ ?_ | refine CQ ?_ | simp (maxSteps := 1000000) (disch := omega) only [go_sem, hi])
      all_goals (try (exfalso; omega))
      · rw [sayM_no (fun hh => by omega)]; rfl
      · unfold sayM; rw [if_pos ⟨hr, rfl, h⟩]; rfl
    · have hi := ifB_f hr
      repeat' (first | (with_reducible intro h; (try simp only [h]); (try simp only [HS] at h)) | ((with_reducible apply scEnd_of); exact rfl; exact rfl) | ((with_reducible apply ScW_of); rfl; rfl; trivial) | with_reducible first | apply Br_of | refine O1 ?_ | refine O2 ?_ | refine O3 ?_ | refine O4 ?_ | refine O5 ?_ | refine CI ?_ | refine CJ ?_ | refine CQ ?_ | simp (maxSteps := 1000000) (disch := omega) only [go_sem, hi])
      all_goals (try (exfalso; omega))
      all_goals (rw [sayM_no (fun hh => hr hh.1)]; rfl)
instance g20 (a0 : Int) (a1 : List Int) (a2 : Bool) (a3 : Int) (a4 : ByteArray) (a5 a6 : Int) (a7 : ByteArray) (a8 : Int) (a9 : List LegV) (a10 : List TodoV) (t : Int) : Fs 20 [⟨.agg, [.int .i64 a0, .ro 1 (rowsI a1), .bool a2, .int .i64 a3, .str a4, .int .i64 a5, .int .i64 a6, .str a7, .int .i64 a8, .ro 11 (rows a9), .ro 6 (rows a10)]⟩, i64 t] (a1.length ≤ 9223372036854775807 ∧ a4.size ≤ 9223372036854775807 ∧ a9.length ≤ 1048576 ∧ a10.length ≤ 1048576 ∧ (∀ e ∈ a9, e.fit) ∧ (∀ e ∈ a10, e.mz ≤ 1048576)) (⟨.tup [(false, 1), (true, 10), (false, 1)], [.int .i64 (sayM a0 a1 a2 ⟨a3, a4, a5, a6, a7⟩ a8 a9 a10 t).1, .int .i64 (sayM a0 a1 a2 ⟨a3, a4, a5, a6, a7⟩ a8 a9 a10 t).2.1.k, .int .i64 (sayM a0 a1 a2 ⟨a3, a4, a5, a6, a7⟩ a8 a9 a10 t).2.1.fr, .int .i64 (sayM a0 a1 a2 ⟨a3, a4, a5, a6, a7⟩ a8 a9 a10 t).2.1.to, .int .i64 (sayM a0 a1 a2 ⟨a3, a4, a5, a6, a7⟩ a8 a9 a10 t).2.1.tm, .int .i64 (sayM a0 a1 a2 ⟨a3, a4, a5, a6, a7⟩ a8 a9 a10 t).2.1.ix, .int .i64 (sayM a0 a1 a2 ⟨a3, a4, a5, a6, a7⟩ a8 a9 a10 t).2.1.it, .int .i64 (sayM a0 a1 a2 ⟨a3, a4, a5, a6, a7⟩ a8 a9 a10 t).2.1.cm, .bool (sayM a0 a1 a2 ⟨a3, a4, a5, a6, a7⟩ a8 a9 a10 t).2.1.y, .own 2 (rowsE (sayM a0 a1 a2 ⟨a3, a4, a5, a6, a7⟩ a8 a9 a10 t).2.1.e), .str (sayM a0 a1 a2 ⟨a3, a4, a5, a6, a7⟩ a8 a9 a10 t).2.1.d, .bool (sayM a0 a1 a2 ⟨a3, a4, a5, a6, a7⟩ a8 a9 a10 t).2.2]⟩) := by
  refine F_of m20 rfl fun hyp => ?_
  obtain ⟨q0, q1, q2, q3, q4, q6⟩ := id hyp
  have q5 : ∀ e ∈ a10, e.fit := fun e he => by have := q6 e he; unfold TodoV.mz at this; unfold TodoV.fit; omega
  cases a2 with
  | false =>
    repeat' (first | (with_reducible intro h; (try simp only [h]); (try simp only [HS] at h)) | ((with_reducible apply scEnd_of); exact rfl; exact rfl) | ((with_reducible apply ScW_of); rfl; rfl; trivial) | with_reducible first | apply Br_of | refine O1 ?_ | refine O2 ?_ | refine O3 ?_ | refine O4 ?_ | refine O5 ?_ | refine CI ?_ | refine CJ ?_ | refine CQ ?_ | simp (maxSteps := 1000000) (disch := omega) only [go_sem])
    all_goals (try (exfalso; omega))
    all_goals (rw [sayM_no (fun h => absurd h.2.1 (by simp))]; rfl)
  | true =>
    by_cases hr : rtP a0 a1 true ⟨a3, a4, a5, a6, a7⟩ a8 a9 a10
    · have hi := ifB_t hr
      obtain ⟨r1, r2, r3, r4, r5⟩ := id hr
      obtain ⟨w1, w2, w3, w4⟩ : true = true ∧ _ := by rcases r5 with h | h; exact absurd h.1 (by simp); exact h
      have hp : 0 < a10.length := by have := w4.1; rw [ne_eq, nil_iff] at this; omega
      have hg := TodoV.ok_grp (w4.2.2.2.1 _ (getD_mem default hp)).1
      have hs := q6 _ (getD_mem default hp)
      simp only [TodoV.mz] at hs
      repeat' (first | (with_reducible intro h; (try simp only [h]); (try simp only [HS] at h)) | ((with_reducible apply scEnd_of); exact rfl; exact rfl) | ((with_reducible apply ScW_of); rfl; rfl; trivial) | with_reducible first | apply Br_of | refine O1 ?_ | refine O2 ?_ | refine O3 ?_ | refine O4 ?_ | refine O5 ?_ | refine CI ?_ | refine CJ ?_ | refine CQ ?_ | simp (maxSteps := 1000000) (disch := omega) only [go_sem, hi])
      all_goals (try (exfalso; omega))
      · rw [sayM_no (fun hh => by omega)]; rfl
      · unfold sayM; rw [if_pos ⟨hr, rfl, h⟩]; rfl
    · have hi := ifB_f hr
      repeat' (first | (with_reducible intro h; (try simp only [h]); (try simp only [HS] at h)) | ((with_reducible apply scEnd_of); exact rfl; exact rfl) | ((with_reducible apply ScW_of); rfl; rfl; trivial) | with_reducible first | apply Br_of | refine O1 ?_ | refine O2 ?_ | refine O3 ?_ | refine O4 ?_ | refine O5 ?_ | refine CI ?_ | refine CJ ?_ | refine CQ ?_ | simp (maxSteps := 1000000) (disch := omega) only [go_sem, hi])
      all_goals (try (exfalso; omega))
      all_goals (rw [sayM_no (fun hh => hr hh.1)]; rfl)
attribute [go_sem] Root.gho.injEq
attribute [push_cast] markE_len
theorem eqE_self (l : List EV) : eqE l l = true := by simp [eqE]
theorem held_val (n : Nat) : (if heldE 1 (markE 1 n) < 0 then -1 else heldE 1 (markE 1 n)) = 1 + 2 * (n : Int) := by
  rw [held_mark]; rw [if_neg (by omega)]
theorem sayM_e {id : Int} {ser : List Int} {busy : Bool} {c : CallV} {b : Int} {legs : List LegV} {todo : List TodoV} {t : Int} : (sayM id ser busy c b legs todo t).2.1.e.length = 0 := by
  unfold sayM; split <;> rfl
instance g25 (a0 : Int) (a1 : List Int) (a2 : Bool) (a3 : Int) (a4 : ByteArray) (a5 a6 : Int) (a7 : ByteArray) (a8 : Int) (a9 : List LegV) (a10 : List TodoV) (k : Int) : Fc Tryz.prog 25 [⟨.agg, [.int .i64 a0, .own 1 (rowsI a1), .bool a2, .int .i64 a3, .str a4, .int .i64 a5, .int .i64 a6, .str a7, .int .i64 a8, .own 11 (rows a9), .own 6 (rows a10)]⟩, i64 k] [] (a1.length ≤ 1048576 ∧ a9.length ≤ 1048576 ∧ a10.length ≤ 1048576 ∧ 0 ≤ k ∧ k ≤ 1000000) (i64 (k + 1 * a1.length + 11 * a9.length + 6 * a10.length)) [⟨.agg, [.int .i64 a0, .own 1 (rowsI (markG id 1 k a1.length)), .bool a2, .int .i64 a3, .str a4, .int .i64 a5, .int .i64 a6, .str a7, .int .i64 a8, .own 11 (rows (markG LegV.mk1 11 (k + 1 * a1.length) a9.length)), .own 6 (rows (markG TodoV.mk1 6 (k + 1 * a1.length + 11 * a9.length) a10.length))]⟩, i64 k] [] := by
  refine F_of m25 rfl fun hyp => ?_
  repeat' (first | (with_reducible intro h; (try simp only [h]); (try simp only [HS] at h)) | ((with_reducible apply scEnd_of); exact rfl; exact rfl) | ((with_reducible apply ScW_of); rfl; rfl; trivial) | with_reducible first | apply Br_of | refine O1 ?_ | refine O2 ?_ | refine O3 ?_ | refine O4 ?_ | refine O5 ?_ | refine CI ?_ | refine CJ ?_ | refine CQ ?_ | simp (maxSteps := 1000000) (disch := omega) only [go_sem])
instance g4 (a0 : Int) (a1 : List Int) (a2 : Bool) (a3 : Int) (a4 : ByteArray) (a5 a6 : Int) (a7 : ByteArray) (a8 : Int) (a9 : List LegV) (a10 : List TodoV) (t : Int) : Fs 4 [⟨.agg, [.int .i64 a0, .ro 1 (rowsI a1), .bool a2, .int .i64 a3, .str a4, .int .i64 a5, .int .i64 a6, .str a7, .int .i64 a8, .ro 11 (rows a9), .ro 6 (rows a10)]⟩, i64 t] (a1.length ≤ 9223372036854775807 ∧ a4.size ≤ 9223372036854775807 ∧ a7.size ≤ 9223372036854775807 ∧ a9.length ≤ 9223372036854775807 ∧ (∀ e ∈ a9, e.fit) ∧ a10.length ≤ 9223372036854775807 ∧ (∀ e ∈ a10, e.fit)) (bl true) := by
  refine F_of m4 rfl fun hyp => ?_
  obtain ⟨q0, q1, q2, q3, q4, q5, q6⟩ := id hyp
  have rt := szI_cases ((a1.length : Int) + (a4.size : Int) + (a7.size : Int) + mL LegV.mz a9 + mL TodoV.mz a10) 1048576
  have n1 := mL_len LegV.mz_nn a9
  have n2 := mL_len TodoV.mz_nn a10
  have he := sayM_e (id := a0) (ser := a1) (busy := a2) (c := ⟨a3, a4, a5, a6, a7⟩) (b := a8) (legs := a9) (todo := a10) (t := t)
  by_cases hz : (a1.length : Int) + (a4.size : Int) + (a7.size : Int) + mL LegV.mz a9 + mL TodoV.mz a10 ≤ 1048576
  · have hm : ∀ e ∈ a10, e.mz ≤ 1048576 := fun e h => by have := mL_mem TodoV.mz_nn h; omega
    repeat' (first | (with_reducible intro h; (try simp only [h]); (try simp only [HS] at h)) | ((with_reducible apply scEnd_of); exact rfl; exact rfl) | ((with_reducible apply ScW_of); rfl; rfl; trivial) | with_reducible first | apply Br_of | refine O1 ?_ | refine O2 ?_ | refine O3 ?_ | refine O4 ?_ | refine O5 ?_ | refine CI ?_ | refine CJ ?_ | refine CQ ?_ | simp (maxSteps := 1000000) (disch := omega) only [go_sem, held_val, markE_len, eqE_self, bne_self_eq_false])
    all_goals (try (exfalso; omega))
  · repeat' (first | (with_reducible intro h; (try simp only [h]); (try simp only [HS] at h)) | ((with_reducible apply scEnd_of); exact rfl; exact rfl) | ((with_reducible apply ScW_of); rfl; rfl; trivial) | with_reducible first | apply Br_of | refine O1 ?_ | refine O2 ?_ | refine O3 ?_ | refine O4 ?_ | refine O5 ?_ | refine CI ?_ | refine CJ ?_ | refine CQ ?_ | simp (maxSteps := 1000000) (disch := omega) only [go_sem])
    all_goals (try (exfalso; omega))
end Go.Eng
