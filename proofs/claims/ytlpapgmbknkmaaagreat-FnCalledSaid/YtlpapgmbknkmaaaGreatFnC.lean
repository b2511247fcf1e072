/-
  Contracts of functions of the program, its reference and the laws: what each returns; the conditions stand in each contract.
-/
import Derived.Test.YtlpapgmbknkmaaaGreatFnB
set_option linter.unusedSimpArgs false
set_option linter.unusedVariables false
set_option maxRecDepth 100000
set_option maxHeartbeats 2000000
namespace Go.Eng
open Go Go.Proofs
def markG {α : Type} (f : Int → α) (w k : Int) : Nat → List α
  | 0 => []
  | n + 1 => markG f w k n ++ [f (k + w * n)]
@[push_cast] theorem markG_len {α : Type} (f : Int → α) (w k : Int) : ∀ n, (markG f w k n).length = n
  | 0 => rfl
  | n + 1 => by simp [markG, markG_len f w k n]
theorem markG_step {α : Type} {f : Int → α} {w k : Int} {l : List α} {i : Nat} (z : α) (h : i < l.length) : (markG f w k i ++ l.drop i).set i (f (k + w * (i : Int))) = markG f w k (i + 1) ++ l.drop (i + 1) := by
  rw [List.set_append_right _ _ (by rw [markG_len]; omega), markG_len, Nat.sub_self, drop_getD z h, List.set_cons_zero]
  simp [markG]
theorem set_getDz {α : Type} {l : List α} {i : Nat} {x : α} (z : α) (h : i < l.length) : (l.set i x).getD i z = x := by simp [List.getD, h]
noncomputable def heldG {α : Type} (f : Int → α) (w k : Int) (l : List α) : Int := open Classical in if l = markG f w k l.length then k + w * l.length else -1
theorem heldG_yes {α : Type} {f : Int → α} {w k : Int} {l : List α} (h : l = markG f w k l.length) : heldG f w k l = k + w * l.length := by unfold heldG; rw [if_pos h]
theorem heldG_mark {α : Type} {f : Int → α} {w k : Int} {n : Nat} : heldG f w k (markG f w k n) = k + w * n := by rw [heldG_yes (by rw [markG_len]), markG_len]
theorem markG_get {α : Type} {f : Int → α} {w k : Int} (z : α) : ∀ {n i : Nat}, i < n → (markG f w k n).getD i z = f (k + w * i)
  | n + 1, i, h => by
    simp only [markG]
    by_cases hi : i < n
    · rw [List.getD, List.getElem?_append_left (by rw [markG_len]; exact hi)]
      exact markG_get z hi
    · have : i = n := by omega
      subst this
      rw [List.getD, List.getElem?_append_right (by rw [markG_len]; omega), markG_len]
      simp
theorem heldG_no {α : Type} {f : Int → α} {w k : Int} {l : List α} {i : Nat} (z : α) (h : i < l.length) (h2 : ¬l.getD i z = f (k + w * i)) : heldG f w k l = -1 := by
  unfold heldG
  rw [if_neg]
  intro e
  apply h2
  rw [e]
  exact markG_get z h
theorem held_step {α : Type} {f : Int → α} {w k : Int} {l : List α} {i : Nat} (z : α) (h : i < l.length) (h1 : l.take i = markG f w k i) (h2 : l.getD i z = f (k + w * i)) : l.take (i + 1) = markG f w k (i + 1) := by
  rw [take_snocZ z h, h1, h2]; rfl
theorem held_end {α : Type} {f : Int → α} {w k : Int} {l : List α} {i : Nat} (h : l.length ≤ i) (hi : i ≤ l.length) (h1 : l.take i = markG f w k i) : heldG f w k l = k + w * l.length := by
  have e : i = l.length := by omega
  subst e
  rw [List.take_length] at h1
  exact heldG_yes h1
theorem heldG_rng {α : Type} {f : Int → α} {w k : Int} {l : List α} (hw : 0 ≤ w) : heldG f w k l = -1 ∨ heldG f w k l = k + w * l.length := by
  unfold heldG; split
  · exact .inr rfl
  · exact .inl rfl
attribute [push_cast] List.length_set
def LegV.mk1 (k : Int) : LegV := ⟨k, k + 1, ⟨k + 1 + 1, markT (k + 1 + 1 + 1), k + 1 + 1 + 1 + 1, k + 1 + 1 + 1 + 1 + 1, markT (k + 1 + 1 + 1 + 1 + 1 + 1)⟩, ⟨k + 1 + 1 + 1 + 1 + 1 + 1 + 1, k + 1 + 1 + 1 + 1 + 1 + 1 + 1 + 1, k + 1 + 1 + 1 + 1 + 1 + 1 + 1 + 1 + 1, markT (k + 1 + 1 + 1 + 1 + 1 + 1 + 1 + 1 + 1 + 1)⟩⟩
@[go_sem] theorem LegV.set0 {l : List LegV} {i : Nat} {v : Int} (h : i < l.length) : setCells 11 (rows l) (i * 11) [.int .i64 v] = rows (l.set i (⟨v, (l.getD i default).Serial, (l.getD i default).Op, (l.getD i default).Answer⟩ : LegV)) := rows_part0 (x := ⟨v, (l.getD i default).Serial, (l.getD i default).Op, (l.getD i default).Answer⟩) rfl rfl (Nat.le_of_ble_eq_true rfl) h
@[go_sem] theorem LegV.set1 {l : List LegV} {i : Nat} {v : Int} (h : i < l.length) : setCells 11 (rows l) (i * 11 + 1) [.int .i64 v] = rows (l.set i (⟨(l.getD i default).Group, v, (l.getD i default).Op, (l.getD i default).Answer⟩ : LegV)) := rows_part (x := ⟨(l.getD i default).Group, v, (l.getD i default).Op, (l.getD i default).Answer⟩) rfl rfl (Nat.le_of_ble_eq_true rfl) h
@[go_sem] theorem LegV.set2 {l : List LegV} {i : Nat} {v : Int} (h : i < l.length) : setCells 11 (rows l) (i * 11 + 2) [.int .i64 v] = rows (l.set i (⟨(l.getD i default).Group, (l.getD i default).Serial, ⟨v, (l.getD i default).Op.key, (l.getD i default).Op.f, (l.getD i default).Op.t, (l.getD i default).Op.d⟩, (l.getD i default).Answer⟩ : LegV)) := rows_part (x := ⟨(l.getD i default).Group, (l.getD i default).Serial, ⟨v, (l.getD i default).Op.key, (l.getD i default).Op.f, (l.getD i default).Op.t, (l.getD i default).Op.d⟩, (l.getD i default).Answer⟩) rfl rfl (Nat.le_of_ble_eq_true rfl) h
@[go_sem] theorem LegV.set3 {l : List LegV} {i : Nat} {v : ByteArray} (h : i < l.length) : setCells 11 (rows l) (i * 11 + 3) [.str v] = rows (l.set i (⟨(l.getD i default).Group, (l.getD i default).Serial, ⟨(l.getD i default).Op.k, v, (l.getD i default).Op.f, (l.getD i default).Op.t, (l.getD i default).Op.d⟩, (l.getD i default).Answer⟩ : LegV)) := rows_part (x := ⟨(l.getD i default).Group, (l.getD i default).Serial, ⟨(l.getD i default).Op.k, v, (l.getD i default).Op.f, (l.getD i default).Op.t, (l.getD i default).Op.d⟩, (l.getD i default).Answer⟩) rfl rfl (Nat.le_of_ble_eq_true rfl) h
@[go_sem] theorem LegV.set4 {l : List LegV} {i : Nat} {v : Int} (h : i < l.length) : setCells 11 (rows l) (i * 11 + 4) [.int .i64 v] = rows (l.set i (⟨(l.getD i default).Group, (l.getD i default).Serial, ⟨(l.getD i default).Op.k, (l.getD i default).Op.key, v, (l.getD i default).Op.t, (l.getD i default).Op.d⟩, (l.getD i default).Answer⟩ : LegV)) := rows_part (x := ⟨(l.getD i default).Group, (l.getD i default).Serial, ⟨(l.getD i default).Op.k, (l.getD i default).Op.key, v, (l.getD i default).Op.t, (l.getD i default).Op.d⟩, (l.getD i default).Answer⟩) rfl rfl (Nat.le_of_ble_eq_true rfl) h
@[go_sem] theorem LegV.set5 {l : List LegV} {i : Nat} {v : Int} (h : i < l.length) : setCells 11 (rows l) (i * 11 + 5) [.int .i64 v] = rows (l.set i (⟨(l.getD i default).Group, (l.getD i default).Serial, ⟨(l.getD i default).Op.k, (l.getD i default).Op.key, (l.getD i default).Op.f, v, (l.getD i default).Op.d⟩, (l.getD i default).Answer⟩ : LegV)) := rows_part (x := ⟨(l.getD i default).Group, (l.getD i default).Serial, ⟨(l.getD i default).Op.k, (l.getD i default).Op.key, (l.getD i default).Op.f, v, (l.getD i default).Op.d⟩, (l.getD i default).Answer⟩) rfl rfl (Nat.le_of_ble_eq_true rfl) h
@[go_sem] theorem LegV.set6 {l : List LegV} {i : Nat} {v : ByteArray} (h : i < l.length) : setCells 11 (rows l) (i * 11 + 6) [.str v] = rows (l.set i (⟨(l.getD i default).Group, (l.getD i default).Serial, ⟨(l.getD i default).Op.k, (l.getD i default).Op.key, (l.getD i default).Op.f, (l.getD i default).Op.t, v⟩, (l.getD i default).Answer⟩ : LegV)) := rows_part (x := ⟨(l.getD i default).Group, (l.getD i default).Serial, ⟨(l.getD i default).Op.k, (l.getD i default).Op.key, (l.getD i default).Op.f, (l.getD i default).Op.t, v⟩, (l.getD i default).Answer⟩) rfl rfl (Nat.le_of_ble_eq_true rfl) h
@[go_sem] theorem LegV.set7 {l : List LegV} {i : Nat} {v : Int} (h : i < l.length) : setCells 11 (rows l) (i * 11 + 7) [.int .i64 v] = rows (l.set i (⟨(l.getD i default).Group, (l.getD i default).Serial, (l.getD i default).Op, ⟨v, (l.getD i default).Answer.i, (l.getD i default).Answer.m, (l.getD i default).Answer.d⟩⟩ : LegV)) := rows_part (x := ⟨(l.getD i default).Group, (l.getD i default).Serial, (l.getD i default).Op, ⟨v, (l.getD i default).Answer.i, (l.getD i default).Answer.m, (l.getD i default).Answer.d⟩⟩) rfl rfl (Nat.le_of_ble_eq_true rfl) h
@[go_sem] theorem LegV.set8 {l : List LegV} {i : Nat} {v : Int} (h : i < l.length) : setCells 11 (rows l) (i * 11 + 8) [.int .i64 v] = rows (l.set i (⟨(l.getD i default).Group, (l.getD i default).Serial, (l.getD i default).Op, ⟨(l.getD i default).Answer.c, v, (l.getD i default).Answer.m, (l.getD i default).Answer.d⟩⟩ : LegV)) := rows_part (x := ⟨(l.getD i default).Group, (l.getD i default).Serial, (l.getD i default).Op, ⟨(l.getD i default).Answer.c, v, (l.getD i default).Answer.m, (l.getD i default).Answer.d⟩⟩) rfl rfl (Nat.le_of_ble_eq_true rfl) h
@[go_sem] theorem LegV.set9 {l : List LegV} {i : Nat} {v : Int} (h : i < l.length) : setCells 11 (rows l) (i * 11 + 9) [.int .i64 v] = rows (l.set i (⟨(l.getD i default).Group, (l.getD i default).Serial, (l.getD i default).Op, ⟨(l.getD i default).Answer.c, (l.getD i default).Answer.i, v, (l.getD i default).Answer.d⟩⟩ : LegV)) := rows_part (x := ⟨(l.getD i default).Group, (l.getD i default).Serial, (l.getD i default).Op, ⟨(l.getD i default).Answer.c, (l.getD i default).Answer.i, v, (l.getD i default).Answer.d⟩⟩) rfl rfl (Nat.le_of_ble_eq_true rfl) h
@[go_sem] theorem LegV.set10 {l : List LegV} {i : Nat} {v : ByteArray} (h : i < l.length) : setCells 11 (rows l) (i * 11 + 10) [.str v] = rows (l.set i (⟨(l.getD i default).Group, (l.getD i default).Serial, (l.getD i default).Op, ⟨(l.getD i default).Answer.c, (l.getD i default).Answer.i, (l.getD i default).Answer.m, v⟩⟩ : LegV)) := rows_part (x := ⟨(l.getD i default).Group, (l.getD i default).Serial, (l.getD i default).Op, ⟨(l.getD i default).Answer.c, (l.getD i default).Answer.i, (l.getD i default).Answer.m, v⟩⟩) rfl rfl (Nat.le_of_ble_eq_true rfl) h
@[go_sem] theorem LegV.sst0 {l : List LegV} {i : Nat} {x : LegV} {v : Int} (h : i < l.length) : setCells 11 (rows (l.set i x)) (i * 11) [.int .i64 v] = rows (l.set i (⟨v, x.Serial, x.Op, x.Answer⟩ : LegV)) := by rw [LegV.set0 (by rw [List.length_set]; exact h), set_getDz default h, List.set_set]
@[go_sem] theorem LegV.sst1 {l : List LegV} {i : Nat} {x : LegV} {v : Int} (h : i < l.length) : setCells 11 (rows (l.set i x)) (i * 11 + 1) [.int .i64 v] = rows (l.set i (⟨x.Group, v, x.Op, x.Answer⟩ : LegV)) := by rw [LegV.set1 (by rw [List.length_set]; exact h), set_getDz default h, List.set_set]
@[go_sem] theorem LegV.sst2 {l : List LegV} {i : Nat} {x : LegV} {v : Int} (h : i < l.length) : setCells 11 (rows (l.set i x)) (i * 11 + 2) [.int .i64 v] = rows (l.set i (⟨x.Group, x.Serial, ⟨v, x.Op.key, x.Op.f, x.Op.t, x.Op.d⟩, x.Answer⟩ : LegV)) := by rw [LegV.set2 (by rw [List.length_set]; exact h), set_getDz default h, List.set_set]
@[go_sem] theorem LegV.sst3 {l : List LegV} {i : Nat} {x : LegV} {v : ByteArray} (h : i < l.length) : setCells 11 (rows (l.set i x)) (i * 11 + 3) [.str v] = rows (l.set i (⟨x.Group, x.Serial, ⟨x.Op.k, v, x.Op.f, x.Op.t, x.Op.d⟩, x.Answer⟩ : LegV)) := by rw [LegV.set3 (by rw [List.length_set]; exact h), set_getDz default h, List.set_set]
@[go_sem] theorem LegV.sst4 {l : List LegV} {i : Nat} {x : LegV} {v : Int} (h : i < l.length) : setCells 11 (rows (l.set i x)) (i * 11 + 4) [.int .i64 v] = rows (l.set i (⟨x.Group, x.Serial, ⟨x.Op.k, x.Op.key, v, x.Op.t, x.Op.d⟩, x.Answer⟩ : LegV)) := by rw [LegV.set4 (by rw [List.length_set]; exact h), set_getDz default h, List.set_set]
@[go_sem] theorem LegV.sst5 {l : List LegV} {i : Nat} {x : LegV} {v : Int} (h : i < l.length) : setCells 11 (rows (l.set i x)) (i * 11 + 5) [.int .i64 v] = rows (l.set i (⟨x.Group, x.Serial, ⟨x.Op.k, x.Op.key, x.Op.f, v, x.Op.d⟩, x.Answer⟩ : LegV)) := by rw [LegV.set5 (by rw [List.length_set]; exact h), set_getDz default h, List.set_set]
@[go_sem] theorem LegV.sst6 {l : List LegV} {i : Nat} {x : LegV} {v : ByteArray} (h : i < l.length) : setCells 11 (rows (l.set i x)) (i * 11 + 6) [.str v] = rows (l.set i (⟨x.Group, x.Serial, ⟨x.Op.k, x.Op.key, x.Op.f, x.Op.t, v⟩, x.Answer⟩ : LegV)) := by rw [LegV.set6 (by rw [List.length_set]; exact h), set_getDz default h, List.set_set]
@[go_sem] theorem LegV.sst7 {l : List LegV} {i : Nat} {x : LegV} {v : Int} (h : i < l.length) : setCells 11 (rows (l.set i x)) (i * 11 + 7) [.int .i64 v] = rows (l.set i (⟨x.Group, x.Serial, x.Op, ⟨v, x.Answer.i, x.Answer.m, x.Answer.d⟩⟩ : LegV)) := by rw [LegV.set7 (by rw [List.length_set]; exact h), set_getDz default h, List.set_set]
@[go_sem] theorem LegV.sst8 {l : List LegV} {i : Nat} {x : LegV} {v : Int} (h : i < l.length) : setCells 11 (rows (l.set i x)) (i * 11 + 8) [.int .i64 v] = rows (l.set i (⟨x.Group, x.Serial, x.Op, ⟨x.Answer.c, v, x.Answer.m, x.Answer.d⟩⟩ : LegV)) := by rw [LegV.set8 (by rw [List.length_set]; exact h), set_getDz default h, List.set_set]
@[go_sem] theorem LegV.sst9 {l : List LegV} {i : Nat} {x : LegV} {v : Int} (h : i < l.length) : setCells 11 (rows (l.set i x)) (i * 11 + 9) [.int .i64 v] = rows (l.set i (⟨x.Group, x.Serial, x.Op, ⟨x.Answer.c, x.Answer.i, v, x.Answer.d⟩⟩ : LegV)) := by rw [LegV.set9 (by rw [List.length_set]; exact h), set_getDz default h, List.set_set]
@[go_sem] theorem LegV.sst10 {l : List LegV} {i : Nat} {x : LegV} {v : ByteArray} (h : i < l.length) : setCells 11 (rows (l.set i x)) (i * 11 + 10) [.str v] = rows (l.set i (⟨x.Group, x.Serial, x.Op, ⟨x.Answer.c, x.Answer.i, x.Answer.m, v⟩⟩ : LegV)) := by rw [LegV.set10 (by rw [List.length_set]; exact h), set_getDz default h, List.set_set]
def TodoV.mk1 (k : Int) : TodoV := ⟨k, ⟨k + 1, markT (k + 1 + 1), k + 1 + 1 + 1, k + 1 + 1 + 1 + 1, markT (k + 1 + 1 + 1 + 1 + 1)⟩⟩
@[go_sem] theorem TodoV.set0 {l : List TodoV} {i : Nat} {v : Int} (h : i < l.length) : setCells 6 (rows l) (i * 6) [.int .i64 v] = rows (l.set i (⟨v, (l.getD i default).Op⟩ : TodoV)) := rows_part0 (x := ⟨v, (l.getD i default).Op⟩) rfl rfl (Nat.le_of_ble_eq_true rfl) h
@[go_sem] theorem TodoV.set1 {l : List TodoV} {i : Nat} {v : Int} (h : i < l.length) : setCells 6 (rows l) (i * 6 + 1) [.int .i64 v] = rows (l.set i (⟨(l.getD i default).Group, ⟨v, (l.getD i default).Op.key, (l.getD i default).Op.f, (l.getD i default).Op.t, (l.getD i default).Op.d⟩⟩ : TodoV)) := rows_part (x := ⟨(l.getD i default).Group, ⟨v, (l.getD i default).Op.key, (l.getD i default).Op.f, (l.getD i default).Op.t, (l.getD i default).Op.d⟩⟩) rfl rfl (Nat.le_of_ble_eq_true rfl) h
@[go_sem] theorem TodoV.set2 {l : List TodoV} {i : Nat} {v : ByteArray} (h : i < l.length) : setCells 6 (rows l) (i * 6 + 2) [.str v] = rows (l.set i (⟨(l.getD i default).Group, ⟨(l.getD i default).Op.k, v, (l.getD i default).Op.f, (l.getD i default).Op.t, (l.getD i default).Op.d⟩⟩ : TodoV)) := rows_part (x := ⟨(l.getD i default).Group, ⟨(l.getD i default).Op.k, v, (l.getD i default).Op.f, (l.getD i default).Op.t, (l.getD i default).Op.d⟩⟩) rfl rfl (Nat.le_of_ble_eq_true rfl) h
@[go_sem] theorem TodoV.set3 {l : List TodoV} {i : Nat} {v : Int} (h : i < l.length) : setCells 6 (rows l) (i * 6 + 3) [.int .i64 v] = rows (l.set i (⟨(l.getD i default).Group, ⟨(l.getD i default).Op.k, (l.getD i default).Op.key, v, (l.getD i default).Op.t, (l.getD i default).Op.d⟩⟩ : TodoV)) := rows_part (x := ⟨(l.getD i default).Group, ⟨(l.getD i default).Op.k, (l.getD i default).Op.key, v, (l.getD i default).Op.t, (l.getD i default).Op.d⟩⟩) rfl rfl (Nat.le_of_ble_eq_true rfl) h
@[go_sem] theorem TodoV.set4 {l : List TodoV} {i : Nat} {v : Int} (h : i < l.length) : setCells 6 (rows l) (i * 6 + 4) [.int .i64 v] = rows (l.set i (⟨(l.getD i default).Group, ⟨(l.getD i default).Op.k, (l.getD i default).Op.key, (l.getD i default).Op.f, v, (l.getD i default).Op.d⟩⟩ : TodoV)) := rows_part (x := ⟨(l.getD i default).Group, ⟨(l.getD i default).Op.k, (l.getD i default).Op.key, (l.getD i default).Op.f, v, (l.getD i default).Op.d⟩⟩) rfl rfl (Nat.le_of_ble_eq_true rfl) h
@[go_sem] theorem TodoV.set5 {l : List TodoV} {i : Nat} {v : ByteArray} (h : i < l.length) : setCells 6 (rows l) (i * 6 + 5) [.str v] = rows (l.set i (⟨(l.getD i default).Group, ⟨(l.getD i default).Op.k, (l.getD i default).Op.key, (l.getD i default).Op.f, (l.getD i default).Op.t, v⟩⟩ : TodoV)) := rows_part (x := ⟨(l.getD i default).Group, ⟨(l.getD i default).Op.k, (l.getD i default).Op.key, (l.getD i default).Op.f, (l.getD i default).Op.t, v⟩⟩) rfl rfl (Nat.le_of_ble_eq_true rfl) h
@[go_sem] theorem TodoV.sst0 {l : List TodoV} {i : Nat} {x : TodoV} {v : Int} (h : i < l.length) : setCells 6 (rows (l.set i x)) (i * 6) [.int .i64 v] = rows (l.set i (⟨v, x.Op⟩ : TodoV)) := by rw [TodoV.set0 (by rw [List.length_set]; exact h), set_getDz default h, List.set_set]
@[go_sem] theorem TodoV.sst1 {l : List TodoV} {i : Nat} {x : TodoV} {v : Int} (h : i < l.length) : setCells 6 (rows (l.set i x)) (i * 6 + 1) [.int .i64 v] = rows (l.set i (⟨x.Group, ⟨v, x.Op.key, x.Op.f, x.Op.t, x.Op.d⟩⟩ : TodoV)) := by rw [TodoV.set1 (by rw [List.length_set]; exact h), set_getDz default h, List.set_set]
@[go_sem] theorem TodoV.sst2 {l : List TodoV} {i : Nat} {x : TodoV} {v : ByteArray} (h : i < l.length) : setCells 6 (rows (l.set i x)) (i * 6 + 2) [.str v] = rows (l.set i (⟨x.Group, ⟨x.Op.k, v, x.Op.f, x.Op.t, x.Op.d⟩⟩ : TodoV)) := by rw [TodoV.set2 (by rw [List.length_set]; exact h), set_getDz default h, List.set_set]
@[go_sem] theorem TodoV.sst3 {l : List TodoV} {i : Nat} {x : TodoV} {v : Int} (h : i < l.length) : setCells 6 (rows (l.set i x)) (i * 6 + 3) [.int .i64 v] = rows (l.set i (⟨x.Group, ⟨x.Op.k, x.Op.key, v, x.Op.t, x.Op.d⟩⟩ : TodoV)) := by rw [TodoV.set3 (by rw [List.length_set]; exact h), set_getDz default h, List.set_set]
@[go_sem] theorem TodoV.sst4 {l : List TodoV} {i : Nat} {x : TodoV} {v : Int} (h : i < l.length) : setCells 6 (rows (l.set i x)) (i * 6 + 4) [.int .i64 v] = rows (l.set i (⟨x.Group, ⟨x.Op.k, x.Op.key, x.Op.f, v, x.Op.d⟩⟩ : TodoV)) := by rw [TodoV.set4 (by rw [List.length_set]; exact h), set_getDz default h, List.set_set]
@[go_sem] theorem TodoV.sst5 {l : List TodoV} {i : Nat} {x : TodoV} {v : ByteArray} (h : i < l.length) : setCells 6 (rows (l.set i x)) (i * 6 + 5) [.str v] = rows (l.set i (⟨x.Group, ⟨x.Op.k, x.Op.key, x.Op.f, x.Op.t, v⟩⟩ : TodoV)) := by rw [TodoV.set5 (by rw [List.length_set]; exact h), set_getDz default h, List.set_set]
open Classical in
noncomputable def sayM (id : Int) (ser : List Int) (busy : Bool) (c : CallV) (b : Int) (legs : List LegV) (todo : List TodoV) (t : Int) : Int × MsgV × Bool :=
  if rtP id ser busy c b legs todo ∧ busy = true ∧ 0 ≤ t ∧ t ≤ 4 then ((todo.getD 0 default).Group, ⟨6, 10 + id, t, 0, ser.getD (todo.getD 0 default).Group.toNat 0, 0, 0, false, [], opS (todo.getD 0 default).Op⟩, true) else (0, MsgV.zero, false)
theorem sayM_no {id : Int} {ser : List Int} {busy : Bool} {c : CallV} {b : Int} {legs : List LegV} {todo : List TodoV} {t : Int} (h : ¬(rtP id ser busy c b legs todo ∧ busy = true ∧ 0 ≤ t ∧ t ≤ 4)) : sayM id ser busy c b legs todo t = (0, MsgV.zero, false) := if_neg h
instance g22 (a0 : Int) (a1 : List Int) (a2 : Bool) (a3 : Int) (a4 : ByteArray) (a5 a6 : Int) (a7 : ByteArray) (a8 : Int) (a9 : List LegV) (a10 : List TodoV) (t : Int) : Fs 22 [⟨.agg, [.int .i64 a0, .ro 1 (rowsI a1), .bool a2, .int .i64 a3, .str a4, .int .i64 a5, .int .i64 a6, .str a7, .int .i64 a8, .ro 11 (rows a9), .ro 6 (rows a10)]⟩, i64 t] (a1.length ≤ 9223372036854775807 ∧ a4.size ≤ 9223372036854775807 ∧ a9.length ≤ 1048576 ∧ a10.length ≤ 1048576 ∧ (∀ e ∈ a9, e.fit) ∧ (∀ e ∈ a10, e.mz ≤ 1048576)) (⟨.tup [(false, 1), (true, 10), (false, 1)], [.int .i64 (sayM a0 a1 a2 ⟨a3, a4, a5, a6, a7⟩ a8 a9 a10 t).1, .int .i64 (sayM a0 a1 a2 ⟨a3, a4, a5, a6, a7⟩ a8 a9 a10 t).2.1.k, .int .i64 (sayM a0 a1 a2 ⟨a3, a4, a5, a6, a7⟩ a8 a9 a10 t).2.1.fr, .int .i64 (sayM a0 a1 a2 ⟨a3, a4, a5, a6, a7⟩ a8 a9 a10 t).2.1.to, .int .i64 (sayM a0 a1 a2 ⟨a3, a4, a5, a6, a7⟩ a8 a9 a10 t).2.1.tm, .int .i64 (sayM a0 a1 a2 ⟨a3, a4, a5, a6, a7⟩ a8 a9 a10 t).2.1.ix, .int .i64 (sayM a0 a1 a2 ⟨a3, a4, a5, a6, a7⟩ a8 a9 a10 t).2.1.it, .int .i64 (sayM a0 a1 a2 ⟨a3, a4, a5, a6, a7⟩ a8 a9 a10 t).2.1.cm, .bool (sayM a0 a1 a2 ⟨a3, a4, a5, a6, a7⟩ a8 a9 a10 t).2.1.y, .own 2 (rowsE (sayM a0 a1 a2 ⟨a3, a4, a5, a6, a7⟩ a8 a9 a10 t).2.1.e), .str (sayM a0 a1 a2 ⟨a3, a4, a5, a6, a7⟩ a8 a9 a10 t).2.1.d, .bool (sayM a0 a1 a2 ⟨a3, a4, a5, a6, a7⟩ a8 a9 a10 t).2.2]⟩) := by
  refine F_of m22 rfl fun hyp => ?_
  obtain ⟨q0, q1, q2, q3, q4, q6⟩ := id hyp
  have q5 : ∀ e ∈ a10, e.fit := fun e he => by have := q6 e he; unfold TodoV.mz at this; unfold TodoV.fit; omega
  cases a2 with
  | false =>
    repeat' (first | (with_reducible intro h; (try simp only [h]); (try simp only [HS] at h)) | ((with_reducible apply scEnd_of); exact rfl; exact rfl) | ((with_reducible apply ScW_of); rfl; rfl; trivial) | with_reducible first | apply Br_of | refine O1 ?_ | refine O2 ?_ | refine O3 ?_ | refine O4 ?_ | refine O5 ?_ | refine CI ?_ | refine CJ ?_ | refine CQp ?_ | refine CQ ?_ | simp (maxSteps := 1000000) (disch := omega) only [go_sem])
    all_goals (try (exfalso; omega))
    all_goals (rw [sayM_no (fun h => absurd h.2.1 (by simp))]; rfl)
  | true =>
    by_cases hr : rtP a0 a1 true ⟨a3, a4, a5, a6, a7⟩ a8 a9 a10
    · have hi := ifB_t hr
      obtain ⟨r1, r2, r3, r4, r5⟩ := id hr
      obtain ⟨w1, w2, w3, w4⟩ : true = true ∧ _ := by rcases r5 with h | h; exact absurd h.1 (by simp); exact h
      have hp : 0 < a10.length := by have := w4.1; rw [ne_eq, nil_iff] at this; omega
      have hg := TodoV.ok_grp (w4.2.2.2.1 _ (getD_mem default hp)).1
      have hs := q6 _ (getD_mem default hp)
      simp only [TodoV.mz] at hs
      repeat' (first | (with_reducible intro h; (try simp only [h]); (try simp only [HS] at h)) | ((with_reducible apply scEnd_of); exact rfl; exact rfl) | ((with_reducible apply ScW_of); rfl; rfl; trivial) | with_reducible first | apply Br_of | refine O1 ?_ | refine O2 ?_ | refine O3 ?_ | refine O4 ?_ | refine O5 ?_ | refine CI ?_ | refine CJ ?_ | refine CQp ?_ | refine CQ ?_ | simp (maxSteps := 1000000) (disch := omega) only [go_sem, hi])
      all_goals (try (exfalso; omega))
      · rw [sayM_no (fun hh => by omega)]; rfl
      · unfold sayM; rw [if_pos ⟨hr, rfl, h⟩]; rfl
    · have hi := ifB_f hr
      repeat' (first | (with_reducible intro h; (try simp only [h]); (try simp only [HS] at h)) | ((with_reducible apply scEnd_of); exact rfl; exact rfl) | ((with_reducible apply ScW_of); rfl; rfl; trivial) | with_reducible first | apply Br_of | refine O1 ?_ | refine O2 ?_ | refine O3 ?_ | refine O4 ?_ | refine O5 ?_ | refine CI ?_ | refine CJ ?_ | refine CQp ?_ | refine CQ ?_ | simp (maxSteps := 1000000) (disch := omega) only [go_sem, hi])
      all_goals (try (exfalso; omega))
      all_goals (rw [sayM_no (fun hh => hr hh.1)]; rfl)
noncomputable def RouterV.held (k : Int) (a1 : List Int) (a9 : List LegV) (a10 : List TodoV) : Int := if heldG id 1 k a1 < 0 then -1 else if heldG LegV.mk1 11 (heldG id 1 k a1) a9 < 0 then -1 else if heldG TodoV.mk1 6 (heldG LegV.mk1 11 (heldG id 1 k a1) a9) a10 < 0 then -1 else heldG TodoV.mk1 6 (heldG LegV.mk1 11 (heldG id 1 k a1) a9) a10
theorem RouterV.held_mark {k : Int} {n0 n1 n2 : Nat} (h : 0 ≤ k) : RouterV.held k (markG id 1 k n0) (markG LegV.mk1 11 (k + 1 * n0) n1) (markG TodoV.mk1 6 (k + 1 * n0 + 11 * n1) n2) = k + 1 * n0 + 11 * n1 + 6 * n2 := by
  unfold RouterV.held
  simp only [heldG_mark]
  repeat rw [if_neg (by omega)]
@[go_sem] theorem flat_rowsI (l : List Int) : flatRows (rowsI l) = true := by simp [flatRows, rowsI, D.scalar]
theorem flat_rows {α : Type} [Row α] (h : ∀ x : α, (Row.row x).all D.scalar = true) (l : List α) : flatRows (rows l) = true := by
  unfold flatRows rows
  rw [List.all_eq_true]
  intro r hr
  obtain ⟨x, _, rfl⟩ := List.mem_map.1 hr
  exact h x
@[go_sem] theorem flat_legs (l : List LegV) : flatRows (rows l) = true := flat_rows (fun x => by simp [LegV.row_eq, D.scalar]) l
@[go_sem] theorem flat_todo (l : List TodoV) : flatRows (rows l) = true := flat_rows (fun x => by simp [TodoV.row_eq, D.scalar]) l
instance g183 (l : List Int) : Fs 183 [⟨.one, [.ro 1 (rowsI l)]⟩] (l.length ≤ 1048576) (⟨.one, [.own 1 (rowsI l)]⟩) := by
  refine F_of m183 rfl fun hyp => ?_
  repeat' (first | (with_reducible intro h; (try simp only [h]); (try simp only [HS] at h)) | ((with_reducible apply scEnd_of); exact rfl; exact rfl) | ((with_reducible apply ScW_of); rfl; rfl; trivial) | with_reducible first | apply Br_of | refine O1 ?_ | refine O2 ?_ | refine O3 ?_ | refine O4 ?_ | refine O5 ?_ | refine CI ?_ | refine CJ ?_ | refine CQp ?_ | refine CQ ?_ | simp (maxSteps := 1000000) (disch := omega) only [go_sem])
  rename_i b hb
  have e : l = [] := by cases l with | nil => rfl | cons x t => rw [hb (by simp [rowsI, rows])] at h; simp at h
  subst e; rfl
instance g184 (l : List LegV) : Fs 184 [⟨.one, [.ro 11 (rows l)]⟩] (l.length ≤ 1048576) (⟨.one, [.own 11 (rows l)]⟩) := by
  refine F_of m184 rfl fun hyp => ?_
  repeat' (first | (with_reducible intro h; (try simp only [h]); (try simp only [HS] at h)) | ((with_reducible apply scEnd_of); exact rfl; exact rfl) | ((with_reducible apply ScW_of); rfl; rfl; trivial) | with_reducible first | apply Br_of | refine O1 ?_ | refine O2 ?_ | refine O3 ?_ | refine O4 ?_ | refine O5 ?_ | refine CI ?_ | refine CJ ?_ | refine CQp ?_ | refine CQ ?_ | simp (maxSteps := 1000000) (disch := omega) only [go_sem])
  rename_i b hb
  have e : l = [] := by cases l with | nil => rfl | cons x t => rw [hb (by simp [rowsI, rows])] at h; simp at h
  subst e; rfl
instance g185 (l : List TodoV) : Fs 185 [⟨.one, [.ro 6 (rows l)]⟩] (l.length ≤ 1048576) (⟨.one, [.own 6 (rows l)]⟩) := by
  refine F_of m185 rfl fun hyp => ?_
  repeat' (first | (with_reducible intro h; (try simp only [h]); (try simp only [HS] at h)) | ((with_reducible apply scEnd_of); exact rfl; exact rfl) | ((with_reducible apply ScW_of); rfl; rfl; trivial) | with_reducible first | apply Br_of | refine O1 ?_ | refine O2 ?_ | refine O3 ?_ | refine O4 ?_ | refine O5 ?_ | refine CI ?_ | refine CJ ?_ | refine CQp ?_ | refine CQ ?_ | simp (maxSteps := 1000000) (disch := omega) only [go_sem])
  rename_i b hb
  have e : l = [] := by cases l with | nil => rfl | cons x t => rw [hb (by simp [rowsI, rows])] at h; simp at h
  subst e; rfl
instance g186 (l : List Int) (v : Int) : Fs 186 [⟨.one, [.ro 1 (rowsI l)]⟩, i64 v] (l.length ≤ 1048576) (i64 (idxF (fun x => decide (x = v)) l)) := by
  refine F_of m186 rfl fun hyp => ?_
  repeat' (first | (with_reducible intro h; (try simp only [h]); (try simp only [HS] at h)) | ((with_reducible apply scEnd_of); exact rfl; exact rfl) | ((with_reducible apply ScW_of); rfl; rfl; trivial) | with_reducible first | apply Br_of | refine O1 ?_ | refine O2 ?_ | refine O3 ?_ | refine O4 ?_ | refine O5 ?_ | refine CI ?_ | refine CJ ?_ | refine CQp ?_ | refine CQ ?_ | simp (maxSteps := 1000000) (disch := omega) only [go_sem])
  refine LoopK_of (α := Nat) (fun p => ⟨[(8, i64 p), (7, i64 l.length), (1, i64 v), (0, ⟨.one, [.ro 1 (rowsI l)]⟩)], [], [(0, ⟨.one, [.ro 1 (rowsI l)]⟩), (1, i64 v)]⟩) (fun p => p ≤ l.length ∧ idxG (fun x => decide (x = v)) l p = idxF (fun x => decide (x = v)) l) (fun p => l.length - p) 0 ?h0 ⟨Nat.zero_le _, idxG_zero⟩ ?_
  case h0 => rfl
  rintro i ⟨h1, h2⟩
  repeat' (first | (with_reducible intro h; (try simp only [h]); (try simp only [HS] at h)) | ((with_reducible apply scEnd_of); exact rfl; exact rfl) | ((with_reducible apply ScW_of); rfl; rfl; trivial) | with_reducible first | apply Br_of | refine O1 ?_ | refine O2 ?_ | refine O3 ?_ | refine O4 ?_ | refine O5 ?_ | refine CI ?_ | refine CJ ?_ | refine CQp ?_ | refine CQ ?_ | simp (maxSteps := 1000000) (disch := omega) only [go_sem])
  · rw [← h2, idxG_stop 0 (by omega) (by simp only [decide_eq_true_eq]; exact h.symm)]
  · exact LoopQ_of (i + 1) rfl ⟨by omega, by rw [← idxG_go 0 (by omega) (by simp only [decide_eq_false_iff_not]; exact fun e => h e.symm)]; exact h2⟩ (by omega)
  · rw [← h2, idxG_end (by omega)]
instance g113 (l : List Int) (v : Int) : Fs 113 [⟨.one, [.ro 1 (rowsI l)]⟩, i64 v] (l.length ≤ 1048576) (bl (l.any (fun x => decide (x = v)))) := by
  refine F_of m113 rfl fun hyp => ?_
  repeat' (first | (with_reducible intro h; (try simp only [h]); (try simp only [HS] at h)) | ((with_reducible apply scEnd_of); exact rfl; exact rfl) | ((with_reducible apply ScW_of); rfl; rfl; trivial) | with_reducible first | apply Br_of | refine O1 ?_ | refine O2 ?_ | refine O3 ?_ | refine O4 ?_ | refine O5 ?_ | refine CI ?_ | refine CJ ?_ | refine CQp ?_ | refine CQ ?_ | simp (maxSteps := 1000000) (disch := omega) only [go_sem])
  all_goals (rw [idxF_any])
instance g111 (a0 : Int) (a1 : List Int) (a2 : Bool) (a3 : Int) (a4 : ByteArray) (a5 a6 : Int) (a7 : ByteArray) (a8 : Int) (a9 : List LegV) (a10 : List TodoV) : Fs 111 [⟨.agg, [.int .i64 a0, .ro 1 (rowsI a1), .bool a2, .int .i64 a3, .str a4, .int .i64 a5, .int .i64 a6, .str a7, .int .i64 a8, .ro 11 (rows a9), .ro 6 (rows a10)]⟩] (a1.length ≤ 1048576 ∧ a9.length ≤ 1048576 ∧ a10.length ≤ 1048576) (⟨.agg, [.int .i64 a0, .own 1 (rowsI a1), .bool a2, .int .i64 a3, .str a4, .int .i64 a5, .int .i64 a6, .str a7, .int .i64 a8, .own 11 (rows a9), .own 6 (rows a10)]⟩) := by
  refine F_of m111 rfl fun hyp => ?_
  repeat' (first | (with_reducible intro h; (try simp only [h]); (try simp only [HS] at h)) | ((with_reducible apply scEnd_of); exact rfl; exact rfl) | ((with_reducible apply ScW_of); rfl; rfl; trivial) | with_reducible first | apply Br_of | refine O1 ?_ | refine O2 ?_ | refine O3 ?_ | refine O4 ?_ | refine O5 ?_ | refine CI ?_ | refine CJ ?_ | refine CQp ?_ | refine CQ ?_ | simp (maxSteps := 1000000) (disch := omega) only [go_sem])
instance g108 (a0 : Int) (a1 : List Int) (a2 : Bool) (a3 : Int) (a4 : ByteArray) (a5 a6 : Int) (a7 : ByteArray) (a8 : Int) (a9 : List LegV) (a10 : List TodoV) : Fs 108 [⟨.agg, [.int .i64 a0, .ro 1 (rowsI a1), .bool a2, .int .i64 a3, .str a4, .int .i64 a5, .int .i64 a6, .str a7, .int .i64 a8, .ro 11 (rows a9), .ro 6 (rows a10)]⟩] (a1.length ≤ 1048576 ∧ a9.length ≤ 1048576 ∧ a10.length ≤ 1048576) (⟨.agg, [.int .i64 a0, .own 1 (rowsI a1), .bool a2, .int .i64 a3, .str a4, .int .i64 a5, .int .i64 a6, .str a7, .int .i64 a8, .own 11 (rows a9), .own 6 (rows a10)]⟩) := by
  refine F_of m108 rfl fun hyp => ?_
  repeat' (first | (with_reducible intro h; (try simp only [h]); (try simp only [HS] at h)) | ((with_reducible apply scEnd_of); exact rfl; exact rfl) | ((with_reducible apply ScW_of); rfl; rfl; trivial) | with_reducible first | apply Br_of | refine O1 ?_ | refine O2 ?_ | refine O3 ?_ | refine O4 ?_ | refine O5 ?_ | refine CI ?_ | refine CJ ?_ | refine CQp ?_ | refine CQ ?_ | simp (maxSteps := 1000000) (disch := omega) only [go_sem])
def lastT (l : List Pt) : Int := if (l.map (·.1)).getD (l.length - 1) 0 + 1 ≤ 1099511627776 then (l.map (·.1)).getD (l.length - 1) 0 + 1 else 1099511627776
def firstT (l : List Pt) : Int := if (l.map (·.1)).getD 0 0 = lastT l then (l.map (·.1)).getD 0 0 - 1 else (l.map (·.1)).getD 0 0
noncomputable def askM (k f t : Int) (d : ByteArray) : OpV := if k = 2 then ⟨1, ⟨#[]⟩, f, t, ⟨#[]⟩⟩ else if k = 3 then ⟨2, ⟨#[]⟩, f, 0, ⟨#[]⟩⟩ else if k = 4 then ⟨3, ⟨#[]⟩, f, 0, ⟨#[]⟩⟩ else ⟨1, ⟨#[]⟩, firstT (rblock d).1, lastT (rblock d).1, ⟨#[]⟩⟩
theorem m2m (n : Nat) : n * 2 % 2 = 0 := by omega
theorem m2d (n : Nat) : n * 2 / 2 = n := by omega
theorem call_k {k : Int} {key : ByteArray} {f t : Int} {d : ByteArray} (h : callB k key f t d = true) : (k = 1 ∧ (rblock d).2 = true) ∨ k = 2 ∨ k = 3 ∨ k = 4 := by
  unfold callB opB at h
  rw [decide_eq_true_eq] at h
  by_cases h1 : k = 1
  · subst h1; simp at h; exact .inl ⟨rfl, h.1⟩
  · by_cases h2 : k = 2
    · exact .inr (.inl h2)
    · by_cases h3 : k = 3
      · exact .inr (.inr (.inl h3))
      · by_cases h4 : k = 4
        · exact .inr (.inr (.inr h4))
        · simp [h1, h2, h3, h4] at h
theorem askM_1 {k f t : Int} {d : ByteArray} (h : k = 1) : askM k f t d = ⟨1, ⟨#[]⟩, firstT (rblock d).1, lastT (rblock d).1, ⟨#[]⟩⟩ := by unfold askM; rw [if_neg (by omega), if_neg (by omega), if_neg (by omega)]
theorem rblock_pts {d : ByteArray} (h : (rblock d).2 = true) : 0 < (rblock d).1.length ∧ ∀ i, i < (rblock d).1.length → 0 ≤ ((rblock d).1.map (·.1)).getD i 0 ∧ ((rblock d).1.map (·.1)).getD i 0 ≤ 1099511627776 := by
  rcases rblock_cases d with ⟨l, hl, e⟩ | ⟨_, e⟩
  · rw [e]
    obtain ⟨h1, h2, _⟩ := hl
    refine ⟨List.length_pos_iff.2 h2, fun i hi => ?_⟩
    have := h1.1 i hi
    exact ⟨this.1, this.2.1⟩
  · rw [e] at h; simp at h
instance g115 (a0 : Int) (a1 : ByteArray) (a2 a3 : Int) (a4 : ByteArray) : Fs 115 [⟨.agg, [.int .i64 a0, .str a1, .int .i64 a2, .int .i64 a3, .str a4]⟩] (callB a0 a1 a2 a3 a4 = true) (⟨.agg, [.int .i64 (askM a0 a2 a3 a4).k, .str (askM a0 a2 a3 a4).key, .int .i64 (askM a0 a2 a3 a4).f, .int .i64 (askM a0 a2 a3 a4).t, .str (askM a0 a2 a3 a4).d]⟩) := by
  refine F_of m115 rfl fun hyp => ?_
  have hk := call_k hyp
  have hp : a0 = 1 → _ := fun h => rblock_pts (d := a4) (by rcases hk with h1 | h1 | h1 | h1; exact h1.2; all_goals omega)
  have hl := rblock_len a4
  rcases hk with h1 | h1 | h1 | h1
  · have hp := hp h1.1
    have hp0 := hp.1
    have hp1 := hp.2 0 hp.1
    have hp2 := hp.2 ((rblock a4).1.length - 1) (by omega)
    repeat' (first | (with_reducible intro h; (try simp only [h]); (try simp only [HS] at h)) | ((with_reducible apply scEnd_of); exact rfl; exact rfl) | ((with_reducible apply ScW_of); rfl; rfl; trivial) | with_reducible first | apply Br_of | refine O1 ?_ | refine O2 ?_ | refine O3 ?_ | refine O4 ?_ | refine O5 ?_ | refine CI ?_ | refine CJ ?_ | refine CQp ?_ | refine CQ ?_ | simp (maxSteps := 1000000) (disch := omega) only [go_sem, m2m, m2d])
    all_goals (try (exfalso; omega))
    all_goals (rw [askM_1 (by omega)]; simp only [Prod.mk.injEq, SV.mk.injEq, List.cons.injEq, Cell.int.injEq, and_true, true_and]; unfold firstT lastT; constructor <;> (repeat' split) <;> first | omega)
  · repeat' (first | (with_reducible intro h; (try simp only [h]); (try simp only [HS] at h)) | ((with_reducible apply scEnd_of); exact rfl; exact rfl) | ((with_reducible apply ScW_of); rfl; rfl; trivial) | with_reducible first | apply Br_of | refine O1 ?_ | refine O2 ?_ | refine O3 ?_ | refine O4 ?_ | refine O5 ?_ | refine CI ?_ | refine CJ ?_ | refine CQp ?_ | refine CQ ?_ | simp (maxSteps := 1000000) (disch := omega) only [go_sem])
    all_goals (try (exfalso; omega))
    all_goals (unfold askM; rw [if_pos h1])
  · repeat' (first | (with_reducible intro h; (try simp only [h]); (try simp only [HS] at h)) | ((with_reducible apply scEnd_of); exact rfl; exact rfl) | ((with_reducible apply ScW_of); rfl; rfl; trivial) | with_reducible first | apply Br_of | refine O1 ?_ | refine O2 ?_ | refine O3 ?_ | refine O4 ?_ | refine O5 ?_ | refine CI ?_ | refine CJ ?_ | refine CQp ?_ | refine CQ ?_ | simp (maxSteps := 1000000) (disch := omega) only [go_sem])
    all_goals (try (exfalso; omega))
    all_goals (unfold askM; rw [if_neg (by omega), if_pos h1])
  · repeat' (first | (with_reducible intro h; (try simp only [h]); (try simp only [HS] at h)) | ((with_reducible apply scEnd_of); exact rfl; exact rfl) | ((with_reducible apply ScW_of); rfl; rfl; trivial) | with_reducible first | apply Br_of | refine O1 ?_ | refine O2 ?_ | refine O3 ?_ | refine O4 ?_ | refine O5 ?_ | refine CI ?_ | refine CJ ?_ | refine CQp ?_ | refine CQ ?_ | simp (maxSteps := 1000000) (disch := omega) only [go_sem])
    all_goals (try (exfalso; omega))
    all_goals (unfold askM; rw [if_neg (by omega), if_neg (by omega), if_pos h1])
instance g110 (a0 : Int) (a1 : ByteArray) (a2 a3 : Int) (a4 : ByteArray) : Fs 110 [⟨.agg, [.int .i64 a0, .str a1, .int .i64 a2, .int .i64 a3, .str a4]⟩] (callB a0 a1 a2 a3 a4 = true) (⟨.agg, [.int .i64 (askM a0 a2 a3 a4).k, .str (askM a0 a2 a3 a4).key, .int .i64 (askM a0 a2 a3 a4).f, .int .i64 (askM a0 a2 a3 a4).t, .str (askM a0 a2 a3 a4).d]⟩) := by
  refine F_of m110 rfl fun hyp => ?_
  have hk := call_k hyp
  have hp : a0 = 1 → _ := fun h => rblock_pts (d := a4) (by rcases hk with h1 | h1 | h1 | h1; exact h1.2; all_goals omega)
  have hl := rblock_len a4
  rcases hk with h1 | h1 | h1 | h1
  · have hp := hp h1.1
    have hp0 := hp.1
    have hp1 := hp.2 0 hp.1
    have hp2 := hp.2 ((rblock a4).1.length - 1) (by omega)
    repeat' (first | (with_reducible intro h; (try simp only [h]); (try simp only [HS] at h)) | ((with_reducible apply scEnd_of); exact rfl; exact rfl) | ((with_reducible apply ScW_of); rfl; rfl; trivial) | with_reducible first | apply Br_of | refine O1 ?_ | refine O2 ?_ | refine O3 ?_ | refine O4 ?_ | refine O5 ?_ | refine CI ?_ | refine CJ ?_ | refine CQp ?_ | refine CQ ?_ | simp (maxSteps := 1000000) (disch := omega) only [go_sem, m2m, m2d])
    all_goals (try (exfalso; omega))
    all_goals (rw [askM_1 (by omega)]; simp only [Prod.mk.injEq, SV.mk.injEq, List.cons.injEq, Cell.int.injEq, and_true, true_and]; unfold firstT lastT; constructor <;> (repeat' split) <;> first | omega)
  · repeat' (first | (with_reducible intro h; (try simp only [h]); (try simp only [HS] at h)) | ((with_reducible apply scEnd_of); exact rfl; exact rfl) | ((with_reducible apply ScW_of); rfl; rfl; trivial) | with_reducible first | apply Br_of | refine O1 ?_ | refine O2 ?_ | refine O3 ?_ | refine O4 ?_ | refine O5 ?_ | refine CI ?_ | refine CJ ?_ | refine CQp ?_ | refine CQ ?_ | simp (maxSteps := 1000000) (disch := omega) only [go_sem])
    all_goals (try (exfalso; omega))
    all_goals (unfold askM; rw [if_pos h1])
  · repeat' (first | (with_reducible intro h; (try simp only [h]); (try simp only [HS] at h)) | ((with_reducible apply scEnd_of); exact rfl; exact rfl) | ((with_reducible apply ScW_of); rfl; rfl; trivial) | with_reducible first | apply Br_of | refine O1 ?_ | refine O2 ?_ | refine O3 ?_ | refine O4 ?_ | refine O5 ?_ | refine CI ?_ | refine CJ ?_ | refine CQp ?_ | refine CQ ?_ | simp (maxSteps := 1000000) (disch := omega) only [go_sem])
    all_goals (try (exfalso; omega))
    all_goals (unfold askM; rw [if_neg (by omega), if_pos h1])
  · repeat' (first | (with_reducible intro h; (try simp only [h]); (try simp only [HS] at h)) | ((with_reducible apply scEnd_of); exact rfl; exact rfl) | ((with_reducible apply ScW_of); rfl; rfl; trivial) | with_reducible first | apply Br_of | refine O1 ?_ | refine O2 ?_ | refine O3 ?_ | refine O4 ?_ | refine O5 ?_ | refine CI ?_ | refine CJ ?_ | refine CQp ?_ | refine CQ ?_ | simp (maxSteps := 1000000) (disch := omega) only [go_sem])
    all_goals (try (exfalso; omega))
    all_goals (unfold askM; rw [if_neg (by omega), if_neg (by omega), if_pos h1])
noncomputable def askC (c : CallV) : OpV := askM c.Kind c.From c.To c.Data
def full (l : List Int) : Bool := l.any fun x => decide (x = 1000000)
open Classical in
noncomputable def callM (id : Int) (ser : List Int) (busy : Bool) (c : CallV) (b : Int) (legs : List LegV) (todo : List TodoV) (c2 : CallV) (t : Int) : RouterV × Bool :=
  if ¬rtP id ser busy c b legs todo then (⟨0, [], false, CallV.zero, 0, [], []⟩, false)
  else if busy = true ∨ callB c2.Kind c2.Key c2.From c2.To c2.Data = false ∨ full ser = true ∨ ¬(0 ≤ t ∧ t ≤ 1000000) then (⟨id, ser, busy, c, b, legs, todo⟩, false)
  else (⟨id, ser.set 0 (ser.getD 0 0 + 1), true, c2, t, legs, [⟨0, askC c2⟩]⟩, true)
theorem full_of {l : List Int} {i : Nat} (h : serB l = true) (hi : i < l.length) (h2 : 1000000 ≤ l.getD i 0) : full l = true := by
  have := serB_mem h hi
  unfold full
  rw [List.any_eq_true]
  exact ⟨_, getD_mem 0 hi, decide_eq_true (by omega)⟩
theorem full_step {l : List Int} {i : Nat} (hi : i < l.length) (h : full (l.take i) = false) (h2 : l.getD i 0 < 1000000) : full (l.take (i + 1)) = false := by
  rw [take_snocZ 0 hi]
  unfold full at h ⊢
  rw [List.any_append, h]
  simp only [List.any_cons, List.any_nil, Bool.or_false, Bool.false_or]
  exact decide_eq_false (by omega)
section
variable {id : Int} {ser : List Int} {busy : Bool} {c : CallV} {b : Int} {legs : List LegV} {todo : List TodoV} {c2 : CallV} {t : Int}
theorem callM_no (h : ¬rtP id ser busy c b legs todo) : callM id ser busy c b legs todo c2 t = (⟨0, [], false, CallV.zero, 0, [], []⟩, false) := if_pos h
theorem callM_same (h : rtP id ser busy c b legs todo) (h2 : busy = true ∨ callB c2.Kind c2.Key c2.From c2.To c2.Data = false ∨ full ser = true ∨ ¬(0 ≤ t ∧ t ≤ 1000000)) : callM id ser busy c b legs todo c2 t = (⟨id, ser, busy, c, b, legs, todo⟩, false) := by
  unfold callM; rw [if_neg (not_not_intro h), if_pos h2]
theorem callM_yes (h : rtP id ser busy c b legs todo) (h2 : busy = false) (h3 : callB c2.Kind c2.Key c2.From c2.To c2.Data = true) (h4 : full ser = false) (h5 : 0 ≤ t ∧ t ≤ 1000000) : callM id ser busy c b legs todo c2 t = (⟨id, ser.set 0 (ser.getD 0 0 + 1), true, c2, t, legs, [⟨0, askC c2⟩]⟩, true) := by
  unfold callM; rw [if_neg (not_not_intro h), if_neg]
  rintro (h | h | h | h)
  · rw [h2] at h; simp at h
  · rw [h3] at h; simp at h
  · rw [h4] at h; simp at h
  · exact h h5
theorem callM_len : (callM id ser busy c b legs todo c2 t).1.Serials.length ≤ ser.length ∧ (callM id ser busy c b legs todo c2 t).1.Legs.length ≤ legs.length ∧ (callM id ser busy c b legs todo c2 t).1.Todo.length ≤ todo.length + 1 := by
  unfold callM
  split
  · simp
  · split <;> simp
end
instance g40 (a0 : Int) (a1 : List Int) (a2 : Bool) (a3 : Int) (a4 : ByteArray) (a5 a6 : Int) (a7 : ByteArray) (a8 : Int) (a9 : List LegV) (a10 : List TodoV) (b0 : Int) (b1 : ByteArray) (b2 b3 : Int) (b4 : ByteArray) (t : Int) : Fs 40 [⟨.agg, [.int .i64 a0, .ro 1 (rowsI a1), .bool a2, .int .i64 a3, .str a4, .int .i64 a5, .int .i64 a6, .str a7, .int .i64 a8, .ro 11 (rows a9), .ro 6 (rows a10)]⟩, ⟨.agg, [.int .i64 b0, .str b1, .int .i64 b2, .int .i64 b3, .str b4]⟩, i64 t] (a1.length ≤ 1048576 ∧ a4.size ≤ 9223372036854775807 ∧ a7.size ≤ 9223372036854775807 ∧ a9.length ≤ 1048576 ∧ a10.length ≤ 1048576 ∧ (∀ e ∈ a9, e.fit) ∧ (∀ e ∈ a10, e.fit) ∧ b1.size ≤ 9223372036854775807 ∧ b4.size ≤ 9223372036854775807) (⟨.tup [(true, 11), (false, 1)], [.int .i64 (callM a0 a1 a2 ⟨a3, a4, a5, a6, a7⟩ a8 a9 a10 ⟨b0, b1, b2, b3, b4⟩ t).1.Id, .own 1 (rowsI (callM a0 a1 a2 ⟨a3, a4, a5, a6, a7⟩ a8 a9 a10 ⟨b0, b1, b2, b3, b4⟩ t).1.Serials), .bool (callM a0 a1 a2 ⟨a3, a4, a5, a6, a7⟩ a8 a9 a10 ⟨b0, b1, b2, b3, b4⟩ t).1.Busy, .int .i64 (callM a0 a1 a2 ⟨a3, a4, a5, a6, a7⟩ a8 a9 a10 ⟨b0, b1, b2, b3, b4⟩ t).1.Call.Kind, .str (callM a0 a1 a2 ⟨a3, a4, a5, a6, a7⟩ a8 a9 a10 ⟨b0, b1, b2, b3, b4⟩ t).1.Call.Key, .int .i64 (callM a0 a1 a2 ⟨a3, a4, a5, a6, a7⟩ a8 a9 a10 ⟨b0, b1, b2, b3, b4⟩ t).1.Call.From, .int .i64 (callM a0 a1 a2 ⟨a3, a4, a5, a6, a7⟩ a8 a9 a10 ⟨b0, b1, b2, b3, b4⟩ t).1.Call.To, .str (callM a0 a1 a2 ⟨a3, a4, a5, a6, a7⟩ a8 a9 a10 ⟨b0, b1, b2, b3, b4⟩ t).1.Call.Data, .int .i64 (callM a0 a1 a2 ⟨a3, a4, a5, a6, a7⟩ a8 a9 a10 ⟨b0, b1, b2, b3, b4⟩ t).1.Begun, .own 11 (rows (callM a0 a1 a2 ⟨a3, a4, a5, a6, a7⟩ a8 a9 a10 ⟨b0, b1, b2, b3, b4⟩ t).1.Legs), .own 6 (rows (callM a0 a1 a2 ⟨a3, a4, a5, a6, a7⟩ a8 a9 a10 ⟨b0, b1, b2, b3, b4⟩ t).1.Todo), .bool (callM a0 a1 a2 ⟨a3, a4, a5, a6, a7⟩ a8 a9 a10 ⟨b0, b1, b2, b3, b4⟩ t).2]⟩) := by
  refine F_of m40 rfl fun hyp => ?_
  obtain ⟨q0, q1, q2, q3, q4, q5, q6, q7, q8⟩ := id hyp
  by_cases hr : rtP a0 a1 a2 ⟨a3, a4, a5, a6, a7⟩ a8 a9 a10
  · have hi := ifB_t hr
    have hser := hr.2.1
    have hsb := hr.2.2.2.1
    have h0 := serB_mem hsb (i := 0) (by omega)
    repeat' (first | (with_reducible intro h; (try simp only [h]); (try simp only [HS] at h)) | ((with_reducible apply scEnd_of); exact rfl; exact rfl) | ((with_reducible apply ScW_of); rfl; rfl; trivial) | with_reducible first | apply Br_of | refine O1 ?_ | refine O2 ?_ | refine O3 ?_ | refine O4 ?_ | refine O5 ?_ | refine CI ?_ | refine CJ ?_ | refine CQp ?_ | refine CQ ?_ | simp (maxSteps := 1000000) (disch := omega) only [go_sem, hi])
    all_goals (try (exfalso; omega))
    · rw [callM_same hr (by unfold full; rcases h with ((h | h) | h) | h | h; exact .inl h; exact .inr (.inl h); exact .inr (.inr (.inl h)); exact .inr (.inr (.inr (by omega))); exact .inr (.inr (.inr (by omega))))]
    · obtain ⟨⟨⟨hb, hcb⟩, hf⟩, ht⟩ := id h
      repeat' (first | (with_reducible intro h; (try simp only [h]); (try simp only [HS] at h)) | ((with_reducible apply scEnd_of); exact rfl; exact rfl) | ((with_reducible apply ScW_of); rfl; rfl; trivial) | with_reducible first | apply Br_of | refine O1 ?_ | refine O2 ?_ | refine O3 ?_ | refine O4 ?_ | refine O5 ?_ | refine CI ?_ | refine CJ ?_ | refine CQp ?_ | refine CQ ?_ | simp (maxSteps := 1000000) (disch := omega) only [go_sem])
      all_goals (try (exfalso; omega))
      rw [callM_yes hr hb hcb hf ht]
      rfl
  · have hi := ifB_f hr
    repeat' (first | (with_reducible intro h; (try simp only [h]); (try simp only [HS] at h)) | ((with_reducible apply scEnd_of); exact rfl; exact rfl) | ((with_reducible apply ScW_of); rfl; rfl; trivial) | with_reducible first | apply Br_of | refine O1 ?_ | refine O2 ?_ | refine O3 ?_ | refine O4 ?_ | refine O5 ?_ | refine CI ?_ | refine CJ ?_ | refine CQp ?_ | refine CQ ?_ | simp (maxSteps := 1000000) (disch := omega) only [go_sem, hi])
    all_goals (try (exfalso; omega))
    all_goals (rw [callM_no hr]; rfl)
instance g38 (a0 : Int) (a1 : List Int) (a2 : Bool) (a3 : Int) (a4 : ByteArray) (a5 a6 : Int) (a7 : ByteArray) (a8 : Int) (a9 : List LegV) (a10 : List TodoV) (b0 : Int) (b1 : ByteArray) (b2 b3 : Int) (b4 : ByteArray) (t : Int) : Fs 38 [⟨.agg, [.int .i64 a0, .ro 1 (rowsI a1), .bool a2, .int .i64 a3, .str a4, .int .i64 a5, .int .i64 a6, .str a7, .int .i64 a8, .ro 11 (rows a9), .ro 6 (rows a10)]⟩, ⟨.agg, [.int .i64 b0, .str b1, .int .i64 b2, .int .i64 b3, .str b4]⟩, i64 t] (a1.length ≤ 1048576 ∧ a4.size ≤ 9223372036854775807 ∧ a7.size ≤ 9223372036854775807 ∧ a9.length ≤ 1048576 ∧ a10.length ≤ 1048576 ∧ (∀ e ∈ a9, e.fit) ∧ (∀ e ∈ a10, e.fit) ∧ b1.size ≤ 9223372036854775807 ∧ b4.size ≤ 9223372036854775807) (⟨.tup [(true, 11), (false, 1)], [.int .i64 (callM a0 a1 a2 ⟨a3, a4, a5, a6, a7⟩ a8 a9 a10 ⟨b0, b1, b2, b3, b4⟩ t).1.Id, .own 1 (rowsI (callM a0 a1 a2 ⟨a3, a4, a5, a6, a7⟩ a8 a9 a10 ⟨b0, b1, b2, b3, b4⟩ t).1.Serials), .bool (callM a0 a1 a2 ⟨a3, a4, a5, a6, a7⟩ a8 a9 a10 ⟨b0, b1, b2, b3, b4⟩ t).1.Busy, .int .i64 (callM a0 a1 a2 ⟨a3, a4, a5, a6, a7⟩ a8 a9 a10 ⟨b0, b1, b2, b3, b4⟩ t).1.Call.Kind, .str (callM a0 a1 a2 ⟨a3, a4, a5, a6, a7⟩ a8 a9 a10 ⟨b0, b1, b2, b3, b4⟩ t).1.Call.Key, .int .i64 (callM a0 a1 a2 ⟨a3, a4, a5, a6, a7⟩ a8 a9 a10 ⟨b0, b1, b2, b3, b4⟩ t).1.Call.From, .int .i64 (callM a0 a1 a2 ⟨a3, a4, a5, a6, a7⟩ a8 a9 a10 ⟨b0, b1, b2, b3, b4⟩ t).1.Call.To, .str (callM a0 a1 a2 ⟨a3, a4, a5, a6, a7⟩ a8 a9 a10 ⟨b0, b1, b2, b3, b4⟩ t).1.Call.Data, .int .i64 (callM a0 a1 a2 ⟨a3, a4, a5, a6, a7⟩ a8 a9 a10 ⟨b0, b1, b2, b3, b4⟩ t).1.Begun, .own 11 (rows (callM a0 a1 a2 ⟨a3, a4, a5, a6, a7⟩ a8 a9 a10 ⟨b0, b1, b2, b3, b4⟩ t).1.Legs), .own 6 (rows (callM a0 a1 a2 ⟨a3, a4, a5, a6, a7⟩ a8 a9 a10 ⟨b0, b1, b2, b3, b4⟩ t).1.Todo), .bool (callM a0 a1 a2 ⟨a3, a4, a5, a6, a7⟩ a8 a9 a10 ⟨b0, b1, b2, b3, b4⟩ t).2]⟩) := by
  refine F_of m38 rfl fun hyp => ?_
  obtain ⟨q0, q1, q2, q3, q4, q5, q6, q7, q8⟩ := id hyp
  by_cases hr : rtP a0 a1 a2 ⟨a3, a4, a5, a6, a7⟩ a8 a9 a10
  · have hi := ifB_t hr
    have hser := hr.2.1
    have hsb := hr.2.2.2.1
    have h0 := serB_mem hsb (i := 0) (by omega)
    repeat' (first | (with_reducible intro h; (try simp only [h]); (try simp only [HS] at h)) | ((with_reducible apply scEnd_of); exact rfl; exact rfl) | ((with_reducible apply ScW_of); rfl; rfl; trivial) | with_reducible first | apply Br_of | refine O1 ?_ | refine O2 ?_ | refine O3 ?_ | refine O4 ?_ | refine O5 ?_ | refine CI ?_ | refine CJ ?_ | refine CQp ?_ | refine CQ ?_ | simp (maxSteps := 1000000) (disch := omega) only [go_sem, hi])
    all_goals (try (exfalso; omega))
    · rw [callM_same hr (by rcases h with (h | h) | h | h; exact .inl h; exact .inr (.inl h); exact .inr (.inr (.inr (by omega))); exact .inr (.inr (.inr (by omega))))]
    · obtain ⟨⟨hb, hcb⟩, ht⟩ := id h
      refine LoopK_of (α := Nat) (fun p => ⟨[(8, i64 p), (6, ⟨.one, [.ptr 6 0]⟩), (4, ⟨.one, [.ptr 4 0]⟩), (3, ⟨.one, [.ptr 3 0]⟩), (2, i64 t)], [(6, [ij 0, oj 1, bj false, ij 0, sj, ij 0, ij 0, sj, ij 0, oj 11, oj 6]), (4, [.int .i64 b0, .str b1, .int .i64 b2, .int .i64 b3, .str b4]), (3, [.int .i64 a0, .own 1 (rowsI a1), .bool a2, .int .i64 a3, .str a4, .int .i64 a5, .int .i64 a6, .str a7, .int .i64 a8, .own 11 (rows a9), .own 6 (rows a10)])], [(0, ⟨.agg, [.int .i64 a0, .ro 1 (rowsI a1), .bool a2, .int .i64 a3, .str a4, .int .i64 a5, .int .i64 a6, .str a7, .int .i64 a8, .ro 11 (rows a9), .ro 6 (rows a10)]⟩), (1, ⟨.agg, [.int .i64 b0, .str b1, .int .i64 b2, .int .i64 b3, .str b4]⟩), (2, i64 t)]⟩) (fun p => p ≤ a1.length ∧ full (a1.take p) = false) (fun p => a1.length - p) 0 rfl ⟨Nat.zero_le _, rfl⟩ ?_
      rintro i ⟨h1, h2⟩
      by_cases hi : i < a1.length
      · repeat' (first | (with_reducible intro h; (try simp only [h]); (try simp only [HS] at h)) | ((with_reducible apply scEnd_of); exact rfl; exact rfl) | ((with_reducible apply ScW_of); rfl; rfl; trivial) | with_reducible first | apply Br_of | refine O1 ?_ | refine O2 ?_ | refine O3 ?_ | refine O4 ?_ | refine O5 ?_ | refine CI ?_ | refine CJ ?_ | refine CQp ?_ | refine CQ ?_ | simp (maxSteps := 1000000) (disch := omega) only [go_sem])
        all_goals (try (exfalso; omega))
        · rw [callM_same hr (.inr (.inr (.inl (full_of hsb hi (by omega)))))]
        · exact LoopQ_of (i + 1) rfl ⟨by omega, full_step hi h2 (by omega)⟩ (by omega)
      · have hf : full a1 = false := by rw [List.take_of_length_le (by omega)] at h2; exact h2
        repeat' (first | (with_reducible intro h; (try simp only [h]); (try simp only [HS] at h)) | ((with_reducible apply scEnd_of); exact rfl; exact rfl) | ((with_reducible apply ScW_of); rfl; rfl; trivial) | with_reducible first | apply Br_of | refine O1 ?_ | refine O2 ?_ | refine O3 ?_ | refine O4 ?_ | refine O5 ?_ | refine CI ?_ | refine CJ ?_ | refine CQp ?_ | refine CQ ?_ | simp (maxSteps := 1000000) (disch := omega) only [go_sem])
        all_goals (try (exfalso; omega))
        rw [callM_yes hr hb hcb hf ht]
        rfl
  · have hi := ifB_f hr
    repeat' (first | (with_reducible intro h; (try simp only [h]); (try simp only [HS] at h)) | ((with_reducible apply scEnd_of); exact rfl; exact rfl) | ((with_reducible apply ScW_of); rfl; rfl; trivial) | with_reducible first | apply Br_of | refine O1 ?_ | refine O2 ?_ | refine O3 ?_ | refine O4 ?_ | refine O5 ?_ | refine CI ?_ | refine CJ ?_ | refine CQp ?_ | refine CQ ?_ | simp (maxSteps := 1000000) (disch := omega) only [go_sem, hi])
    all_goals (try (exfalso; omega))
    all_goals (rw [callM_no hr]; rfl)
theorem rise_le {l : List Int} {n : Nat} (h : riseTo l n) : ∀ j, j < n → l.getD 0 0 ≤ l.getD j 0
  | 0, _ => Int.le_refl _
  | j + 1, hj => by
    have h1 := rise_le h j (by omega)
    have h2 := (h (j + 1) hj).2.2 (by omega)
    rw [show j + 1 - 1 = j by omega] at h2
    omega
theorem opB_route {f t : Int} (h : spanP f t) : opB 1 ⟨#[]⟩ f t ⟨#[]⟩ = true := by
  unfold opB; rw [decide_eq_true_eq]; exact .inl ⟨rfl, h, rfl, rfl⟩
theorem block_span {d : ByteArray} (h : (rblock d).2 = true) : spanP (firstT (rblock d).1) (lastT (rblock d).1) := by
  obtain ⟨hp, hr⟩ := rblock_pts h
  have hle : ((rblock d).1.map (·.1)).getD 0 0 ≤ ((rblock d).1.map (·.1)).getD ((rblock d).1.length - 1) 0 := by
    rcases rblock_cases d with ⟨l, hl, e⟩ | ⟨_, e⟩
    · rw [e] at hp ⊢
      obtain ⟨h1, h2, _⟩ := hl
      have h3 : riseTo (l.map (·.1)) l.length := h1.1
      exact rise_le h3 _ (by dsimp only at hp ⊢; omega)
    · rw [e] at h; simp at h
  have h0 := hr 0 hp
  have h1 := hr ((rblock d).1.length - 1) (by omega)
  unfold spanP firstT lastT
  refine ⟨?_, ?_, ?_⟩ <;> (repeat' split) <;> omega
theorem ask_ok {c : CallV} (h : callB c.Kind c.Key c.From c.To c.Data = true) : (askC c).okB = true ∧ (askC c).k ≤ 3 := by
  have hk := call_k h
  unfold callB opB at h
  rw [decide_eq_true_eq] at h
  unfold askC
  rcases hk with ⟨h1, hr⟩ | h1 | h1 | h1
  · rw [askM_1 h1]
    exact ⟨opB_route (block_span hr), by dsimp only; omega⟩
  · simp only [h1] at h
    have hs : spanP c.From c.To := by
      rcases h with h | h | h | h | h | h
      · exact absurd h.1 (by decide)
      · exact absurd h.1 (by decide)
      · exact absurd h.1 (by decide)
      · exact absurd h.1 (by decide)
      · exact h.2.2.1
      · exact absurd h.1 (by decide)
    unfold askM
    rw [if_pos h1]
    exact ⟨opB_route hs, by dsimp only; omega⟩
  · simp only [h1] at h
    have hs : 0 ≤ c.From ∧ c.From ≤ 1099511627776 := by
      rcases h with h | h | h | h | h | h
      · exact absurd h.1 (by decide)
      · exact h.2.1
      · exact absurd h.1 (by decide)
      · exact absurd h.1 (by decide)
      · exact absurd h.1 (by decide)
      · exact absurd h.1 (by decide)
    unfold askM
    rw [if_neg (by omega), if_pos h1]
    refine ⟨?_, by dsimp only; omega⟩
    unfold OpV.okB opB; rw [decide_eq_true_eq]
    exact .inr (.inl ⟨.inl rfl, hs, rfl, rfl, rfl⟩)
  · simp only [h1] at h
    have hs : 0 ≤ c.From ∧ c.From ≤ 100000 := by
      rcases h with h | h | h | h | h | h
      · exact absurd h.1 (by decide)
      · exact absurd h.1 (by decide)
      · exact h.2.1
      · exact absurd h.1 (by decide)
      · exact absurd h.1 (by decide)
      · exact absurd h.1 (by decide)
    unfold askM
    rw [if_neg (by omega), if_neg (by omega), if_pos h1]
    refine ⟨?_, by dsimp only; omega⟩
    unfold OpV.okB opB; rw [decide_eq_true_eq]
    exact .inr (.inr (.inl ⟨rfl, hs, rfl, rfl, rfl⟩))
theorem rop_show {o : OpV} (h : o.okB = true) : rop (opS o) = (o, true) := by
  have ho : OpAt (opS o) o := ⟨h, if_pos h⟩
  rcases rop_cases (opS o) with ⟨o', ho', e⟩ | ⟨hn, _⟩
  · rw [e, ho'.uniq ho]
  · exact absurd ho (hn o)
section
variable {id : Int} {ser : List Int} {busy : Bool} {c : CallV} {b : Int} {legs : List LegV} {todo : List TodoV} {c2 : CallV} {t : Int}
theorem callM_took (h : (callM id ser busy c b legs todo c2 t).2 = true) : rtP id ser busy c b legs todo ∧ busy = false ∧ legs = [] ∧ callB c2.Kind c2.Key c2.From c2.To c2.Data = true ∧ full ser = false ∧ (0 ≤ t ∧ t ≤ 1000000) := by
  unfold callM at h
  split at h
  · simp at h
  · rename_i h1
    have h1 : rtP id ser busy c b legs todo := Classical.not_not.1 h1
    split at h
    · simp at h
    · rename_i h2
      have hb : busy = false := by cases hq : busy with
        | false => rfl
        | true => exact absurd (.inl hq) h2
      refine ⟨h1, hb, ?_, ?_, ?_, Classical.not_not.1 fun h => h2 (.inr (.inr (.inr h)))⟩
      · rcases h1.2.2.2.2 with h3 | h3
        · exact h3.2.2.2.1
        · rw [hb] at h3; simp at h3
      · cases hq : callB c2.Kind c2.Key c2.From c2.To c2.Data with
        | true => rfl
        | false => exact absurd (.inr (.inl hq)) h2
      · cases hq : full ser with
        | false => rfl
        | true => exact absurd (.inr (.inr (.inl hq))) h2
theorem rtP_called (h : rtP id ser busy c b legs todo) (hl : legs = []) (hc : callB c2.Kind c2.Key c2.From c2.To c2.Data = true) (hf : full ser = false) (ht : 0 ≤ t ∧ t ≤ 1000000) :
    rtP id (ser.set 0 (ser.getD 0 0 + 1)) true c2 t legs [⟨0, askC c2⟩] := by
  obtain ⟨h1, h2, h3, h4, _⟩ := h
  have hs0 : 0 ≤ ser.getD 0 0 ∧ ser.getD 0 0 ≤ 1000000 := serB_mem h4 (by omega)
  have hne : ser.getD 0 0 ≠ 1000000 := fun e => by
    have : full ser = true := full_of h4 (i := 0) (by omega) (by omega)
    rw [hf] at this; simp at this
  have ho := ask_ok hc
  refine ⟨h1, by rw [List.length_set]; exact h2, ht, ?_, .inr ⟨rfl, hc, by rw [hl]; rfl, by simp, ?_, fun _ => rfl, fun x hx => ?_, ?_⟩⟩
  · unfold serB at h4 ⊢
    rw [List.all_eq_true] at h4 ⊢
    intro x hx
    rcases List.mem_or_eq_of_mem_set hx with hx | rfl
    · exact h4 x hx
    · rw [Bool.and_eq_true, decide_eq_true_eq, decide_eq_true_eq]; omega
  · rw [hl]; simp
  · rw [List.mem_singleton] at hx; subst hx
    refine ⟨?_, by rw [hl]; simp⟩
    unfold TodoV.okB
    have := ho.1
    unfold OpV.okB at this
    simp [this]
  · show 1 ≤ (ser.set 0 (ser.getD 0 0 + 1)).getD 0 0
    cases ser with
    | nil => simp at h2
    | cons x l => simp at hs0 ⊢; omega
theorem callM_three : (rtP id ser busy c b legs todo ∧ busy = false ∧ legs = [] ∧ callB c2.Kind c2.Key c2.From c2.To c2.Data = true ∧ full ser = false ∧ (0 ≤ t ∧ t ≤ 1000000) ∧
      callM id ser busy c b legs todo c2 t = (⟨id, ser.set 0 (ser.getD 0 0 + 1), true, c2, t, legs, [⟨0, askC c2⟩]⟩, true)) ∨
    (¬rtP id ser busy c b legs todo ∧ callM id ser busy c b legs todo c2 t = (⟨0, [], false, CallV.zero, 0, [], []⟩, false)) ∨
    (rtP id ser busy c b legs todo ∧ callM id ser busy c b legs todo c2 t = (⟨id, ser, busy, c, b, legs, todo⟩, false)) := by
  by_cases hr : rtP id ser busy c b legs todo
  · by_cases h2 : busy = true ∨ callB c2.Kind c2.Key c2.From c2.To c2.Data = false ∨ full ser = true ∨ ¬(0 ≤ t ∧ t ≤ 1000000)
    · exact .inr (.inr ⟨hr, callM_same hr h2⟩)
    · have hb : busy = false := by cases hq : busy with
        | false => rfl
        | true => exact absurd (.inl hq) h2
      have h3 : callB c2.Kind c2.Key c2.From c2.To c2.Data = true := by cases hq : callB c2.Kind c2.Key c2.From c2.To c2.Data with
        | true => rfl
        | false => exact absurd (.inr (.inl hq)) h2
      have h4 : full ser = false := by cases hq : full ser with
        | false => rfl
        | true => exact absurd (.inr (.inr (.inl hq))) h2
      have h5 : 0 ≤ t ∧ t ≤ 1000000 := Classical.not_not.1 fun h => h2 (.inr (.inr (.inr h)))
      have e := callM_yes (c2 := c2) hr hb h3 h4 h5
      have ht := callM_took (c2 := c2) (by rw [e])
      exact .inl ⟨hr, hb, ht.2.2.1, h3, h4, h5, e⟩
  · exact .inr (.inl ⟨hr, callM_no hr⟩)
theorem sayM_asked {o : OpV} {k : Int} (h : rtP id ser true c b legs [⟨0, o⟩]) (hk : 0 ≤ k ∧ k ≤ 4) : sayM id ser true c b legs [⟨0, o⟩] k = (0, ⟨6, 10 + id, k, 0, ser.getD 0 0, 0, 0, false, [], opS o⟩, true) := by
  unfold sayM
  rw [if_pos ⟨h, rfl, hk⟩]
  rfl
theorem msgB_call {k ix : Int} {d : ByteArray} (h1 : 1 ≤ id ∧ id ≤ 4) (hk : 0 ≤ k ∧ k ≤ 4) (hi : 1 ≤ ix ∧ ix ≤ 1000000) (hd : (rop d).2 = true) : msgB 6 (10 + id) k 0 ix 0 0 false [] d = true := by
  rw [msgB_iff]
  exact .inr (.inr (.inr (.inr (.inr (.inl ⟨rfl, by omega, hk, hi, hd, rfl, rfl, rfl, rfl, rfl⟩)))))
end
theorem mem_le {l : List ByteArray} {s : ByteArray} (n : Nat) (h : l.all (fun s => decide (s.size ≤ n)) = true) (hs : s ∈ l) : s.size ≤ n := of_decide_eq_true (List.all_eq_true.1 h s hs)
theorem opS_le (o : OpV) : (opS o).size ≤ o.key.size + o.d.size + 40 := by
  unfold opS
  split
  · rename_i h
    have hk := okB_rng h
    have h1 := varS_le o.key.size
    have h2 := varS_le o.f
    have h3 := varS_le o.t
    unfold opT
    simp only [ByteArray.size_append, size_strOfNums, List.length_cons, List.length_nil]
    omega
  · exact Nat.zero_le _
theorem ansS_le (a : AnsV) : (ansS a).size ≤ a.d.size + 40 := by
  unfold ansS
  split
  · have h1 := varS_le a.c
    have h2 := varS_le a.i
    have h3 := varS_le a.m
    unfold ansT
    simp only [ByteArray.size_append]
    omega
  · exact Nat.zero_le _
theorem blockS_le (l : List Pt) : (blockS l).size ≤ 900 := by
  unfold blockS
  split
  · have h1 := varS_le l.length
    have h2 := timesS_le (l.map (·.1))
    have h3 := valuesS_le (l.map (·.2))
    have h4 : (blockB l).size ≤ 847 := by unfold blockB; simp only [ByteArray.size_append]; omega
    unfold frameS
    split
    · have h5 := fixS_le (blockB l).size 4
      have h6 := fixS_le (crcN (fixS (blockB l).size 4 ++ blockB l)) 4
      simp only [ByteArray.size_append]
      omega
    · exact Nat.zero_le _
  · exact Nat.zero_le _
attribute [push_cast] rowsI_length rowsP_length List.length_take List.length_map
instance g150 (l : List Pt) : Fs 150 [⟨.one, [.ro 2 (rowsP l)]⟩] (l.length ≤ 1000000) (bl (ptsB l)) := by
  refine F_of m150 rfl fun hyp => ?_
  repeat' (first | (with_reducible intro h; (try simp only [h]); (try simp only [HS] at h)) | ((with_reducible apply scEnd_of); exact rfl; exact rfl) | ((with_reducible apply ScW_of); rfl; rfl; trivial) | with_reducible first | apply Br_of | refine O1 ?_ | refine O2 ?_ | refine O3 ?_ | refine O4 ?_ | refine O5 ?_ | refine CI ?_ | refine CJ ?_ | refine CQp ?_ | refine CQ ?_ | simp (maxSteps := 1000000) (disch := omega) only [go_sem])
  · rw [ptsB_no fun hh => by have := hh.2.2; omega]
  · refine LoopK_of (α := Nat) (fun p => ⟨[(3, i64 p), (0, ⟨.one, [.ro 2 (rowsP l)]⟩)], [], [(0, ⟨.one, [.ro 2 (rowsP l)]⟩)]⟩) (fun p => p ≤ l.length ∧ riseTo (l.map (·.1)) p ∧ valTo (l.map (·.2)) p) (fun p => l.length - p) 0 rfl ⟨Nat.zero_le _, fun i hi => absurd hi (Nat.not_lt_zero i), fun i hi => absurd hi (Nat.not_lt_zero i)⟩ ?_
    rintro i ⟨h1, h2, h3⟩
    repeat' (first | (with_reducible intro h; (try simp only [h]); (try simp only [HS] at h)) | ((with_reducible apply scEnd_of); exact rfl; exact rfl) | ((with_reducible apply ScW_of); rfl; rfl; trivial) | with_reducible first | apply Br_of | refine O1 ?_ | refine O2 ?_ | refine O3 ?_ | refine O4 ?_ | refine O5 ?_ | refine CI ?_ | refine CJ ?_ | refine CQp ?_ | refine CQ ?_ | simp (maxSteps := 1000000) (disch := omega) only [go_sem])
    all_goals (try (exfalso; omega))
    all_goals first | (rw [ptsB_no (ptsOk_no1 (i := i) (by omega) (by omega))]; done) | exact LoopQ_of (i + 1) rfl ⟨by omega, riseTo_succ h2 (by omega) (by omega) (by omega), valTo_succ h3 (by omega) (by omega)⟩ (by omega) | (have e : i = l.length := (by omega); subst e; rw [ptsB_end h2 h3, decide_eq_true (by omega)])
instance g188 (l : List Pt) : Fs 188 [⟨.one, [.ro 2 (rowsP l)]⟩] (l.length ≤ 1000000) (st1 (blockS l)) := by
  refine F_of m188 rfl fun hyp => ?_
  repeat' (first | (with_reducible intro h; (try simp only [h]); (try simp only [HS] at h)) | ((with_reducible apply scEnd_of); exact rfl; exact rfl) | ((with_reducible apply ScW_of); rfl; rfl; trivial) | with_reducible first | apply Br_of | refine O1 ?_ | refine O2 ?_ | refine O3 ?_ | refine O4 ?_ | refine O5 ?_ | refine CI ?_ | refine CJ ?_ | refine CQp ?_ | refine CQ ?_ | simp (maxSteps := 1000000) (disch := omega) only [go_sem])
  · rw [blockS, if_neg]; rintro ⟨q1, q2⟩; have q3 := ptsB_yes q1; have q4 := List.length_pos_iff.2 q2; rw [q3] at h; simp at h; simp [h] at q4
  · have hok := ptsB_iff.1 h.1
    have hh := h
    have h60 := hok.2.2
    refine LoopK_of (α := Nat) (fun p => ⟨[(5, i64 p), (4, ⟨.one, [.own 1 (rowsI ((l.map (·.2)).take p))]⟩), (3, ⟨.one, [.own 1 (rowsI ((l.map (·.1)).take p))]⟩), (0, ⟨.one, [.ro 2 (rowsP l)]⟩)], [], [(0, ⟨.one, [.ro 2 (rowsP l)]⟩)]⟩) (fun p => p ≤ l.length) (fun p => l.length - p) 0 rfl (Nat.zero_le _) ?_
    intro i hi
    by_cases hl : i < l.length
    · repeat' (first | (with_reducible intro h; (try simp only [h]); (try simp only [HS] at h)) | ((with_reducible apply scEnd_of); exact rfl; exact rfl) | ((with_reducible apply ScW_of); rfl; rfl; trivial) | with_reducible first | apply Br_of | refine O1 ?_ | refine O2 ?_ | refine O3 ?_ | refine O4 ?_ | refine O5 ?_ | refine CI ?_ | refine CJ ?_ | refine CQp ?_ | refine CQ ?_ | simp (maxSteps := 1000000) (disch := omega) only [go_sem])
      · rw [← take_snocD _ (by rw [List.length_map]; omega), ← take_snocD _ (by rw [List.length_map]; omega)]
        exact LoopQ_of (i + 1) rfl (by omega) (by omega)
      · omega
    · have e : i = l.length := by omega
      subst e
      rw [List.take_of_length_le (by rw [List.length_map]; omega), List.take_of_length_le (by rw [List.length_map]; omega)]
      have z1 := varS_le l.length
      have z2 := timesS_le (l.map (·.1))
      have z3 := valuesS_le (l.map (·.2))
      have z4 : (l.map (·.1)).length ≤ 1000000 := by rw [List.length_map]; omega
      have z5 : (l.map (·.2)).length ≤ 1000000 := by rw [List.length_map]; omega
      repeat' (first | (with_reducible intro h; (try simp only [h]); (try simp only [HS] at h)) | ((with_reducible apply scEnd_of); exact rfl; exact rfl) | ((with_reducible apply ScW_of); rfl; rfl; trivial) | with_reducible first | apply Br_of | refine O1 ?_ | refine O2 ?_ | refine O3 ?_ | refine O4 ?_ | refine O5 ?_ | refine CI ?_ | refine CJ ?_ | refine CQp ?_ | refine CQ ?_ | simp (maxSteps := 1000000) (disch := omega) only [go_sem])
      · omega
      · rw [blockS, if_pos ⟨hok, fun e => hh.2 (by rw [e]; rfl)⟩]; rfl
instance g189 (b : List Int) (u : Value) (c : Cu b.length) (m : Int) : FcR Tryz.prog 189 [⟨.one, [.ptr 1000000 0]⟩, i64 m] [(1000000, [.rov u 1 (rowsB b), .int .i64 c.i, .int .i64 c.h])] (b.length ≤ 1048576 ∧ 1 ≤ m ∧ m ≤ 1000) (List Pt × Cu b.length) (fun p => (p.1.length : Int) ≤ m) (fun p => ⟨.one, [.own 2 (rowsP p.1)]⟩) (fun p => [⟨.one, [.ptr 1000000 0]⟩, i64 m]) (fun p => [(1000000, [.rov u 1 (rowsB b), .int .i64 p.2.i, .int .i64 p.2.h])]) := by
  refine FR_of m189 rfl fun hyp => ?_
  repeat' (first | (with_reducible intro h; (try simp only [h]); (try simp only [HS] at h)) | ((with_reducible apply scEnd_of); exact rfl; exact rfl) | ((with_reducible apply ScW_of); rfl; rfl; trivial) | with_reducible first | apply Br_of | refine O1 ?_ | refine O2 ?_ | refine O3 ?_ | refine O4 ?_ | refine O5 ?_ | refine CI ?_ | refine CJ ?_ | refine CQp ?_ | refine CQ ?_ | simp (maxSteps := 1000000) (disch := omega) only [go_sem])
  all_goals (try (exfalso; omega))
  refine LoopK_of (α := List Pt × Int × Int × Cu b.length) (fun p => ⟨[(7, i64 p.2.2.1), (6, i64 p.2.1), (5, ⟨.one, [.own 2 (rowsP p.1)]⟩), (0, ⟨.one, [.ptr 1000000 0]⟩)], [(1000000, [.rov u 1 (rowsB b), .int .i64 p.2.2.2.i, .int .i64 p.2.2.2.h])], [(0, ⟨.one, [.ptr 1000000 0]⟩), (1, i64 m)]⟩) (fun p => 0 ≤ p.2.2.1 ∧ p.1.length + p.2.2.1 ≤ m ∧ 0 ≤ p.2.1 ∧ p.2.1 ≤ 250 + 31 * p.1.length) (fun p => p.2.2.1.toNat) ([], _, _, _) rfl ?_ ?_
  case refine_1 => exact ⟨by dsimp only; omega, by dsimp only [List.length_nil]; omega, by dsimp only; omega, by dsimp only [List.length_nil]; omega⟩
  rintro ⟨l, t, n, c2⟩ ⟨h1, h2, h3, h4⟩
  simp only at h1 h2 h3 h4
  repeat' (first | (with_reducible intro h; (try simp only [h]); (try simp only [HS] at h)) | ((with_reducible apply scEnd_of); exact rfl; exact rfl) | ((with_reducible apply ScW_of); rfl; rfl; trivial) | with_reducible first | apply Br_of | refine O1 ?_ | refine O2 ?_ | refine O3 ?_ | refine O4 ?_ | refine O5 ?_ | refine CI ?_ | refine CJ ?_ | refine CQp ?_ | refine CQ ?_ | simp (maxSteps := 1000000) (disch := omega) only [go_sem])
  all_goals (try (exfalso; omega))
  all_goals first | (apply LoopQ_4; rfl; (exact ⟨by dsimp only; omega, by simp only [List.length_append, List.length_cons, List.length_nil]; push_cast; omega, by dsimp only; omega, by simp only [List.length_append, List.length_cons, List.length_nil]; push_cast; omega⟩); (dsimp only; omega)) | (apply FinR_p; (first | with_reducible rfl | rfl); rfl; rfl; (dsimp only; omega)) | skip
instance g204 (b : List Int) (u : Value) (c : Cu b.length)  : FcR Tryz.prog 204 [⟨.one, [.ptr 1000000 0]⟩] [(1000000, [.rov u 1 (rowsB b), .int .i64 c.i, .int .i64 c.h])] (b.length ≤ 1048576) (ByteArray × Cu b.length) (fun p => p.1.size ≤ 8) (fun p => st1 p.1) (fun p => [⟨.one, [.ptr 1000000 0]⟩]) (fun p => [(1000000, [.rov u 1 (rowsB b), .int .i64 p.2.i, .int .i64 p.2.h])]) := by
  refine FR_of m204 rfl fun hyp => ?_
  repeat' (first | (with_reducible intro h; (try simp only [h]); (try simp only [HS] at h)) | ((with_reducible apply scEnd_of); exact rfl; exact rfl) | ((with_reducible apply ScW_of); rfl; rfl; trivial) | with_reducible first | apply Br_of | refine O1 ?_ | refine O2 ?_ | refine O3 ?_ | refine O4 ?_ | refine O5 ?_ | refine CI ?_ | refine CJ ?_ | refine CQp ?_ | refine CQ ?_ | simp (maxSteps := 1000000) (disch := omega) only [go_sem])
  all_goals (try (exfalso; omega))
  all_goals (refine FinR_of ⟨_, _⟩ ?_ rfl rfl rfl; rename_i h; exact mem_le 8 (by rfl) h)
attribute [push_cast] ByteArray.size_extract
instance g105 (b : List Int) (u : Value) (c : Cu b.length) (s : ByteArray) : FcR Tryz.prog 105 [⟨.one, [.ptr 1000000 0]⟩, st1 s] [(1000000, [.rov u 1 (rowsB b), .int .i64 c.i, .int .i64 c.h])] (b.length ≤ 1048576 ∧ s.size ≤ 1000000) (ByteArray × Cu b.length) (fun p => p.1.size ≤ s.size + 3) (fun p => st1 p.1) (fun p => [⟨.one, [.ptr 1000000 0]⟩, st1 s]) (fun p => [(1000000, [.rov u 1 (rowsB b), .int .i64 p.2.i, .int .i64 p.2.h])]) := by
  refine FR_of m105 rfl fun hyp => ?_
  repeat' (first | (with_reducible intro h; (try simp only [h]); (try simp only [HS] at h)) | ((with_reducible apply scEnd_of); exact rfl; exact rfl) | ((with_reducible apply ScW_of); rfl; rfl; trivial) | with_reducible first | apply Br_of | refine O1 ?_ | refine O2 ?_ | refine O3 ?_ | refine O4 ?_ | refine O5 ?_ | refine CI ?_ | refine CJ ?_ | refine CQp ?_ | refine CQ ?_ | simp (maxSteps := 1000000) (disch := omega) only [go_sem])
  all_goals (try (exfalso; omega))
  all_goals first | (apply FinR_p; (first | with_reducible rfl | rfl); rfl; rfl; (dsimp only; simp only [ByteArray.size_append, size_strOfNums, List.length_cons, List.length_nil, ByteArray.size_extract]; omega)) | (apply FinR_p; (first | with_reducible rfl | rfl); rfl; rfl; (dsimp only; omega)) | skip
theorem mem_leA {l : List ByteArray} {s : ByteArray} (n : Nat) (hs : s ∈ l) (h : l.all (fun s => decide (s.size ≤ n)) = true) : s.size ≤ n := mem_le n h hs
theorem CQ_op {P : Program} {f0 : FuncId} {args : List SV} {rf : Refs} {pre : Prop} {k0 : SV → List SV → Refs → Prop} {β : Type} {I : OpV × β → Prop} {res : OpV × β → SV} {args' : OpV × β → List SV} {rf' : OpV × β → Refs} [i0 : FcR P f0 args rf pre (OpV × β) I res args' rf'] (h : ∀ k key f t d z, I (⟨k, key, f, t, d⟩, z) → k0 (res (⟨k, key, f, t, d⟩, z)) (args' (⟨k, key, f, t, d⟩, z)) (rf' (⟨k, key, f, t, d⟩, z)))
    (hc : pre := by first | omega | trivial | assumption | (push_cast; omega) | ((repeat' apply And.intro) <;> first | assumption | omega | (push_cast; omega))) : CallR P f0 args rf k0 := i0.of hc fun x => h x.1.k x.1.key x.1.f x.1.t x.1.d x.2
theorem CR_op {P : Program} {f0 : FuncId} {args : List SV} {rf : Refs} {pre : Prop} {k0 : SV → List SV → Refs → Prop} {I : OpV → Prop} {res : OpV → SV} {args' : OpV → List SV} {rf' : OpV → Refs} [i0 : FcR P f0 args rf pre OpV I res args' rf'] (h : ∀ k key f t d, I ⟨k, key, f, t, d⟩ → k0 (res ⟨k, key, f, t, d⟩) (args' ⟨k, key, f, t, d⟩) (rf' ⟨k, key, f, t, d⟩))
    (hc : pre := by first | omega | trivial | assumption | (push_cast; omega) | ((repeat' apply And.intro) <;> first | assumption | omega | (push_cast; omega))) : CallR P f0 args rf k0 := i0.of hc fun x => h x.k x.key x.f x.t x.d
theorem CutK_op {β : Type} (n : Nat) (S : OpV × β → St) (I : OpV × β → Prop) {P : Program} {sl rfs : List Nat} {a b : XCode} {K : XExit → St → Prop} {st : St} (h : W P a (thenK (CutQ sl rfs S I) K) st)
    (h2 : ∀ k key f t d z, I (⟨k, key, f, t, d⟩, z) → W P b K (S (⟨k, key, f, t, d⟩, z))) : W P (SqC n a (.keep sl rfs b)) K st := CutK_of n S I h fun x => h2 x.1.k x.1.key x.1.f x.1.t x.1.d x.2
theorem CQ_ans {P : Program} {f0 : FuncId} {args : List SV} {rf : Refs} {pre : Prop} {k0 : SV → List SV → Refs → Prop} {β : Type} {I : AnsV × β → Prop} {res : AnsV × β → SV} {args' : AnsV × β → List SV} {rf' : AnsV × β → Refs} [i0 : FcR P f0 args rf pre (AnsV × β) I res args' rf'] (h : ∀ c i m d z, I (⟨c, i, m, d⟩, z) → k0 (res (⟨c, i, m, d⟩, z)) (args' (⟨c, i, m, d⟩, z)) (rf' (⟨c, i, m, d⟩, z)))
    (hc : pre := by first | omega | trivial | assumption | (push_cast; omega) | ((repeat' apply And.intro) <;> first | assumption | omega | (push_cast; omega))) : CallR P f0 args rf k0 := i0.of hc fun x => h x.1.c x.1.i x.1.m x.1.d x.2
theorem CR_ans {P : Program} {f0 : FuncId} {args : List SV} {rf : Refs} {pre : Prop} {k0 : SV → List SV → Refs → Prop} {I : AnsV → Prop} {res : AnsV → SV} {args' : AnsV → List SV} {rf' : AnsV → Refs} [i0 : FcR P f0 args rf pre AnsV I res args' rf'] (h : ∀ c i m d, I ⟨c, i, m, d⟩ → k0 (res ⟨c, i, m, d⟩) (args' ⟨c, i, m, d⟩) (rf' ⟨c, i, m, d⟩))
    (hc : pre := by first | omega | trivial | assumption | (push_cast; omega) | ((repeat' apply And.intro) <;> first | assumption | omega | (push_cast; omega))) : CallR P f0 args rf k0 := i0.of hc fun x => h x.c x.i x.m x.d
theorem CutK_ans {β : Type} (n : Nat) (S : AnsV × β → St) (I : AnsV × β → Prop) {P : Program} {sl rfs : List Nat} {a b : XCode} {K : XExit → St → Prop} {st : St} (h : W P a (thenK (CutQ sl rfs S I) K) st)
    (h2 : ∀ c i m d z, I (⟨c, i, m, d⟩, z) → W P b K (S (⟨c, i, m, d⟩, z))) : W P (SqC n a (.keep sl rfs b)) K st := CutK_of n S I h fun x => h2 x.1.c x.1.i x.1.m x.1.d x.2
theorem CQ_msg {P : Program} {f0 : FuncId} {args : List SV} {rf : Refs} {pre : Prop} {k0 : SV → List SV → Refs → Prop} {β : Type} {I : MsgV × β → Prop} {res : MsgV × β → SV} {args' : MsgV × β → List SV} {rf' : MsgV × β → Refs} [i0 : FcR P f0 args rf pre (MsgV × β) I res args' rf'] (h : ∀ k fr to tm ix it cm y e d z, I (⟨k, fr, to, tm, ix, it, cm, y, e, d⟩, z) → k0 (res (⟨k, fr, to, tm, ix, it, cm, y, e, d⟩, z)) (args' (⟨k, fr, to, tm, ix, it, cm, y, e, d⟩, z)) (rf' (⟨k, fr, to, tm, ix, it, cm, y, e, d⟩, z)))
    (hc : pre := by first | omega | trivial | assumption | (push_cast; omega) | ((repeat' apply And.intro) <;> first | assumption | omega | (push_cast; omega))) : CallR P f0 args rf k0 := i0.of hc fun x => h x.1.k x.1.fr x.1.to x.1.tm x.1.ix x.1.it x.1.cm x.1.y x.1.e x.1.d x.2
theorem CR_msg {P : Program} {f0 : FuncId} {args : List SV} {rf : Refs} {pre : Prop} {k0 : SV → List SV → Refs → Prop} {I : MsgV → Prop} {res : MsgV → SV} {args' : MsgV → List SV} {rf' : MsgV → Refs} [i0 : FcR P f0 args rf pre MsgV I res args' rf'] (h : ∀ k fr to tm ix it cm y e d, I ⟨k, fr, to, tm, ix, it, cm, y, e, d⟩ → k0 (res ⟨k, fr, to, tm, ix, it, cm, y, e, d⟩) (args' ⟨k, fr, to, tm, ix, it, cm, y, e, d⟩) (rf' ⟨k, fr, to, tm, ix, it, cm, y, e, d⟩))
    (hc : pre := by first | omega | trivial | assumption | (push_cast; omega) | ((repeat' apply And.intro) <;> first | assumption | omega | (push_cast; omega))) : CallR P f0 args rf k0 := i0.of hc fun x => h x.k x.fr x.to x.tm x.ix x.it x.cm x.y x.e x.d
theorem CutK_msg {β : Type} (n : Nat) (S : MsgV × β → St) (I : MsgV × β → Prop) {P : Program} {sl rfs : List Nat} {a b : XCode} {K : XExit → St → Prop} {st : St} (h : W P a (thenK (CutQ sl rfs S I) K) st)
    (h2 : ∀ k fr to tm ix it cm y e d z, I (⟨k, fr, to, tm, ix, it, cm, y, e, d⟩, z) → W P b K (S (⟨k, fr, to, tm, ix, it, cm, y, e, d⟩, z))) : W P (SqC n a (.keep sl rfs b)) K st := CutK_of n S I h fun x => h2 x.1.k x.1.fr x.1.to x.1.tm x.1.ix x.1.it x.1.cm x.1.y x.1.e x.1.d x.2
abbrev y137:=Sq r137_0<|Sq r137_1<|Sq (Sq r137_2<|If 13 r137_3 .skip)<|SqC 1 (Sq r137_4<|If 18 r137_5 .skip)<|Kp [0,4,5] [4]<|Sq r137_6<|Sq r137_7<|Sq r137_8<|SqC 2 (Sq r137_9<|.block 0 (Sq r137_10<|If 31 (Sq r137_11<|Sq r137_12<|Sq r137_13<|If 38 r137_14 .skip) (Sq r137_15<|If 42 r137_16 (Sq r137_17<|If 47 r137_18 (Sq r137_19<|If 53 (Sq r137_20<|r137_21) (Sq r137_22<|If 62 (Sq r137_23<|Sq r137_24<|r137_25) (Sq r137_26<|If 71 r137_27 .skip)))))))<|Kp [0,4,6] [4,6]<|SqC 3 (Sq r137_28<|If 77 (Sq r137_29<|.block 1 (Sq r137_31<|If 84 r137_32 (Sq r137_33<|If 90 r137_34 (Sq r137_35<|If 96 r137_36 (Sq r137_37<|If 102 r137_38 r137_30))))) .skip)<|Kp [4,6] [4,6]<|Sq r137_39<|.ret
theorem my137:fnOk Tryz.prog 137 y137 [.cell 4 5 true] 2=true:=by kernel_rfl
instance g137 (b : List Int) (u : Value) (c : Cu b.length) (kind : Int) : FcR Tryz.prog 137 [⟨.one, [.ptr 1000000 0]⟩, i64 kind] [(1000000, [.rov u 1 (rowsB b), .int .i64 c.i, .int .i64 c.h])] (b.length ≤ 1048576) (OpV × Cu b.length) (fun p => p.1.key.size ≤ 1000 ∧ p.1.d.size ≤ 2000) (fun p => ⟨.agg, [.int .i64 p.1.k, .str p.1.key, .int .i64 p.1.f, .int .i64 p.1.t, .str p.1.d]⟩) (fun p => [⟨.one, [.ptr 1000000 0]⟩, i64 kind]) (fun p => [(1000000, [.rov u 1 (rowsB b), .int .i64 p.2.i, .int .i64 p.2.h])]) := by
  refine FR_of my137 rfl fun hyp => ?_
  repeat' (first | (with_reducible intro h; (try simp only [h]); (try simp only [HS] at h)) | ((with_reducible apply scEnd_of); exact rfl; exact rfl) | ((with_reducible apply ScW_of); rfl; rfl; trivial) | with_reducible first | apply Br_of | refine O1 ?_ | refine O2 ?_ | refine O3 ?_ | refine O4 ?_ | refine O5 ?_ | refine CI ?_ | refine CJ ?_ | refine CQp ?_ | refine CQ ?_ | refine CutK_p (α := Int) (β := Cu b.length) 1 (fun p => ⟨[(5, i64 p.1), (4, ⟨.one, [.ptr 4 0]⟩), (0, ⟨.one, [.ptr 1000000 0]⟩)], [(1000000, [.rov u 1 (rowsB b), .int .i64 p.2.i, .int .i64 p.2.h]), (4, [ij 0, sj, ij 0, ij 0, sj])], [(0, ⟨.one, [.ptr 1000000 0]⟩), (1, i64 kind)]⟩) (fun _ => True) ?_ ?_ | refine CutK_op (β := Cu b.length) 2 (fun p => ⟨[(6, ⟨.one, [.ptr 6 0]⟩), (4, ⟨.one, [.ptr 4 0]⟩), (0, ⟨.one, [.ptr 1000000 0]⟩)], [(1000000, [.rov u 1 (rowsB b), .int .i64 p.2.i, .int .i64 p.2.h]), (6, [.int .i64 p.1.k, .str p.1.key, .int .i64 p.1.f, .int .i64 p.1.t, .str p.1.d]), (4, [ij 0, sj, ij 0, ij 0, sj])], [(0, ⟨.one, [.ptr 1000000 0]⟩), (1, i64 kind)]⟩) (fun p => p.1.key.size ≤ 1000 ∧ p.1.d.size ≤ 1000) ?_ ?_ | refine CutK_op (β := Cu b.length) 3 (fun p => ⟨[(6, ⟨.one, [.ptr 6 0]⟩), (4, ⟨.one, [.ptr 4 0]⟩)], [(1000000, [.rov u 1 (rowsB b), .int .i64 p.2.i, .int .i64 p.2.h]), (6, [.int .i64 p.1.k, .str p.1.key, .int .i64 p.1.f, .int .i64 p.1.t, .str p.1.d]), (4, [ij 0, sj, ij 0, ij 0, sj])], [(0, ⟨.one, [.ptr 1000000 0]⟩), (1, i64 kind)]⟩) (fun p => p.1.key.size ≤ 1000 ∧ p.1.d.size ≤ 2000) ?_ ?_ | simp (maxSteps := 1000000) (disch := omega) only [go_sem])
  all_goals (try (exfalso; omega))
  all_goals first | (apply CutQ_p (x := (⟨_, _, _, _, _⟩ : OpV)); rfl; (refine ⟨?_, ?_⟩ <;> first | (dsimp only; omega) | exact Nat.le_trans (blockS_le _) (by decide) | exact Nat.le_trans (mem_leA 9 (by assumption) (by rfl)) (by decide) | exact Nat.zero_le _)) | (apply FinR_p (x := (⟨_, _, _, _, _⟩ : OpV)); (first | with_reducible rfl | rfl); rfl; rfl; (refine ⟨?_, ?_⟩ <;> first | (dsimp only; omega) | exact Nat.le_trans (blockS_le _) (by decide) | exact Nat.le_trans (mem_leA 9 (by assumption) (by rfl)) (by decide) | exact Nat.zero_le _)) | (apply CutQ_p; rfl; (trivial))
instance g122 (b : List Int) (m : Int) : FcR Tryz.prog 122 [⟨.one, [.ro 1 (rowsB b)]⟩, i64 m] [] (b.length ≤ 1048576) (Int) (fun p => p ≤ m) (fun p => i64 p) (fun p => [⟨.one, [.ro 1 (rowsB b)]⟩, i64 m]) (fun p => []) := by
  refine FR_of m122 rfl fun hyp => ?_
  repeat' (first | (with_reducible intro h; (try simp only [h]); (try simp only [HS] at h)) | ((with_reducible apply scEnd_of); exact rfl; exact rfl) | ((with_reducible apply ScW_of); rfl; rfl; trivial) | with_reducible first | apply Br_of | refine O1 ?_ | refine O2 ?_ | refine O3 ?_ | refine O4 ?_ | refine O5 ?_ | refine CI ?_ | refine CJ ?_ | refine CQp ?_ | refine CQ ?_ | simp (maxSteps := 1000000) (disch := omega) only [go_sem, Int.tdiv_eq_ediv_of_nonneg])
  all_goals (try (exfalso; omega))
  all_goals first | (apply FinR_1; (first | with_reducible rfl | rfl); rfl; rfl; (omega))
@[go_sem] theorem flat_rowsP (l : List Pt) : flatRows (rowsP l) = true := by simp [flatRows, rowsP, D.scalar]
theorem LoopQ_3 {α β γ : Type} {sl rf : List Nat} {S : α × β × γ → St} {I : α × β × γ → Prop} {m : α × β × γ → Nat} {n : Nat} {s : St} {x : α} {y : β} {z : γ} (hs : keepF sl rf s = S (x, y, z)) (hI : I (x, y, z)) (hm : m (x, y, z) < n) : LoopQ sl rf S I m n s := LoopQ_of _ hs hI hm
theorem LoopQ_2 {α β : Type} {sl rf : List Nat} {S : α × β → St} {I : α × β → Prop} {m : α × β → Nat} {n : Nat} {s : St} {x : α} {y : β} (hs : keepF sl rf s = S (x, y)) (hI : I (x, y)) (hm : m (x, y) < n) : LoopQ sl rf S I m n s := LoopQ_of _ hs hI hm
def bktF (t : Int) : Int := if 0 ≤ t ∧ t ≤ 1099511627776 then t / 100 else -1
theorem bktF_rng (t : Int) : -1 ≤ bktF t ∧ bktF t ≤ 10995116278 := by unfold bktF; split <;> omega
theorem bktF_in {t : Int} (h : 0 ≤ t ∧ t ≤ 1099511627776) : bktF t = t / 100 := if_pos h
def shF (t : Int) : List Pt → Int
  | [] => -1
  | p :: r => if p.1 = bktF t then p.2 else shF t r
instance g141 (t : Int) : Fs 141 [i64 t] True (i64 (bktF t)) := by
  refine F_of m141 rfl fun hyp => ?_
  repeat' (first | (with_reducible intro h; (try simp only [h]); (try simp only [HS] at h)) | ((with_reducible apply scEnd_of); exact rfl; exact rfl) | ((with_reducible apply ScW_of); rfl; rfl; trivial) | with_reducible first | apply Br_of | refine O1 ?_ | refine O2 ?_ | refine O3 ?_ | refine O4 ?_ | refine O5 ?_ | refine CI ?_ | refine CJ ?_ | refine CQp ?_ | refine CQ ?_ | simp (maxSteps := 1000000) (disch := omega) only [go_sem, Int.tdiv_eq_ediv_of_nonneg])
  all_goals (try (exfalso; omega))
  · rw [bktF, if_neg (by omega)]
  · rw [bktF, if_pos (by omega)]
instance g191 (f t : Int) : FcR Tryz.prog 191 [i64 f, i64 t] [] True (List Int) (fun p => p.length ≤ 8) (fun p => ⟨.one, [.own 1 (rowsI p)]⟩) (fun p => [i64 f, i64 t]) (fun p => []) := by
  refine FR_of m191 rfl fun hyp => ?_
  have q1 := bktF_rng f
  have q2 := bktF_rng (t - 1)
  repeat' (first | (with_reducible intro h; (try simp only [h]); (try simp only [HS] at h)) | ((with_reducible apply scEnd_of); exact rfl; exact rfl) | ((with_reducible apply ScW_of); rfl; rfl; trivial) | with_reducible first | apply Br_of | refine O1 ?_ | refine O2 ?_ | refine O3 ?_ | refine O4 ?_ | refine O5 ?_ | refine CI ?_ | refine CJ ?_ | refine CQp ?_ | refine CQ ?_ | simp (maxSteps := 1000000) (disch := omega) only [go_sem])
  all_goals (try (exfalso; omega))
  all_goals first | (apply FinR_1 (x := ([] : List Int)); (first | with_reducible rfl | rfl); rfl; rfl; (exact Nat.zero_le _)) | skip
  refine LoopK_of (α := List Int × Int) (fun p => ⟨[(8, i64 p.2), (7, i64 (bktF (t - 1))), (5, ⟨.one, [.own 1 (rowsI p.1)]⟩)], [], [(0, i64 f), (1, i64 t)]⟩) (fun p => (p.1.length : Int) = p.2 - bktF f ∧ bktF f ≤ p.2 ∧ p.2 ≤ bktF (t - 1) + 1) (fun p => (bktF (t - 1) + 1 - p.2).toNat) ([], bktF f) rfl ?hI0 ?_
  case hI0 => refine ⟨by simp, Int.le_refl _, ?_⟩; dsimp only; rw [bktF_in (by omega), bktF_in (by omega)]; omega
  rintro ⟨l, p⟩ ⟨h1, h2, h3⟩
  simp only at h1 h2 h3
  repeat' (first | (with_reducible intro h; (try simp only [h]); (try simp only [HS] at h)) | ((with_reducible apply scEnd_of); exact rfl; exact rfl) | ((with_reducible apply ScW_of); rfl; rfl; trivial) | with_reducible first | apply Br_of | refine O1 ?_ | refine O2 ?_ | refine O3 ?_ | refine O4 ?_ | refine O5 ?_ | refine CI ?_ | refine CJ ?_ | refine CQp ?_ | refine CQ ?_ | simp (maxSteps := 1000000) (disch := omega) only [go_sem, rowsI_snoc])
  all_goals (try (exfalso; omega))
  all_goals first | (refine LoopQ_of (l ++ [p], p + 1) rfl ⟨?_, ?_, ?_⟩ ?_ <;> (simp only [List.length_append, List.length_cons, List.length_nil]; push_cast; omega)) | (apply FinR_1; (first | with_reducible rfl | rfl); rfl; rfl; (omega))
instance g44 (l m : List Int) : Fs 44 [⟨.one, [.ro 1 (rowsI l)]⟩, ⟨.one, [.ro 1 (rowsI m)]⟩] (l.length ≤ 1048576 ∧ m.length ≤ 1048576) (bl (decide (l = m))) := by
  refine F_of m44 rfl fun hyp => ?_
  repeat' (first | (with_reducible intro h; (try simp only [h]); (try simp only [HS] at h)) | ((with_reducible apply scEnd_of); exact rfl; exact rfl) | ((with_reducible apply ScW_of); rfl; rfl; trivial) | with_reducible first | apply Br_of | refine O1 ?_ | refine O2 ?_ | refine O3 ?_ | refine O4 ?_ | refine O5 ?_ | refine CI ?_ | refine CJ ?_ | refine CQp ?_ | refine CQ ?_ | simp (maxSteps := 1000000) (disch := omega) only [go_sem])
  · rw [decide_eq_false]; rintro rfl; omega
  · refine LoopK_of (α := Nat) (fun p => ⟨[(5, i64 p), (1, ⟨.one, [.ro 1 (rowsI m)]⟩), (0, ⟨.one, [.ro 1 (rowsI l)]⟩)], [], [(0, ⟨.one, [.ro 1 (rowsI l)]⟩), (1, ⟨.one, [.ro 1 (rowsI m)]⟩)]⟩) (fun p => p ≤ l.length ∧ l.take p = m.take p) (fun p => l.length - p) 0 rfl ⟨Nat.zero_le _, by simp⟩ ?_
    rintro i ⟨h1, h2⟩
    repeat' (first | (with_reducible intro h; (try simp only [h]); (try simp only [HS] at h)) | ((with_reducible apply scEnd_of); exact rfl; exact rfl) | ((with_reducible apply ScW_of); rfl; rfl; trivial) | with_reducible first | apply Br_of | refine O1 ?_ | refine O2 ?_ | refine O3 ?_ | refine O4 ?_ | refine O5 ?_ | refine CI ?_ | refine CJ ?_ | refine CQp ?_ | refine CQ ?_ | simp (maxSteps := 1000000) (disch := omega) only [go_sem])
    all_goals (try (exfalso; omega))
    · rw [decide_eq_false]; rintro rfl; exact h rfl
    · refine LoopQ_of (i + 1) rfl ⟨by omega, ?_⟩ (by omega)
      rw [take_snocD _ (by omega), take_snocD _ (by omega), h2, h]
    · rw [List.take_of_length_le (by omega), List.take_of_length_le (by omega)] at h2
      rw [decide_eq_true h2]
instance g119 (b : List Int) (u : Value) (c : Cu b.length)  : FcR Tryz.prog 119 [⟨.one, [.ptr 1000000 0]⟩] [(1000000, [.rov u 1 (rowsB b), .int .i64 c.i, .int .i64 c.h])] (b.length ≤ 1048576) (Int × Cu b.length) (fun p => p.1 ≤ 1000001) (fun p => i64 p.1) (fun p => [⟨.one, [.ptr 1000000 0]⟩]) (fun p => [(1000000, [.rov u 1 (rowsB b), .int .i64 p.2.i, .int .i64 p.2.h])]) := by
  refine FR_of m119 rfl fun hyp => ?_
  repeat' (first | (with_reducible intro h; (try simp only [h]); (try simp only [HS] at h)) | ((with_reducible apply scEnd_of); exact rfl; exact rfl) | ((with_reducible apply ScW_of); rfl; rfl; trivial) | with_reducible first | apply Br_of | refine O1 ?_ | refine O2 ?_ | refine O3 ?_ | refine O4 ?_ | refine O5 ?_ | refine CI ?_ | refine CJ ?_ | refine CQp ?_ | refine CQ ?_ | simp (maxSteps := 1000000) (disch := omega) only [go_sem])
  all_goals (try simp only [List.mem_cons, List.mem_singleton, List.not_mem_nil, or_false] at *)
  all_goals (try (exfalso; omega))
  all_goals first | (apply FinR_p; (first | with_reducible rfl | rfl); rfl; rfl; (dsimp only; omega))
instance g240 (l : List Pt) (t : Int) : Fs 240 [⟨.one, [.ro 2 (rowsP l)]⟩, i64 t] (l.length ≤ 1048576) (i64 (shF t l)) := by
  refine F_of m240 rfl fun hyp => ?_
  repeat' (first | (with_reducible intro h; (try simp only [h]); (try simp only [HS] at h)) | ((with_reducible apply scEnd_of); exact rfl; exact rfl) | ((with_reducible apply ScW_of); rfl; rfl; trivial) | with_reducible first | apply Br_of | refine O1 ?_ | refine O2 ?_ | refine O3 ?_ | refine O4 ?_ | refine O5 ?_ | refine CI ?_ | refine CJ ?_ | refine CQp ?_ | refine CQ ?_ | simp (maxSteps := 1000000) (disch := omega) only [go_sem])
  refine LoopK_of (α := Nat) (fun p => ⟨[(5, i64 p), (1, i64 t), (0, ⟨.one, [.ro 2 (rowsP l)]⟩)], [], [(0, ⟨.one, [.ro 2 (rowsP l)]⟩), (1, i64 t)]⟩) (fun p => p ≤ l.length ∧ shF t (l.drop p) = shF t l) (fun p => l.length - p) 0 rfl ⟨Nat.zero_le _, rfl⟩ ?_
  rintro i ⟨h1, h2⟩
  by_cases hi : i < l.length
  · have e := drop_getD (0, 0) hi
    have e1 : (l.map (·.1)).getD i 0 = (l.getD i (0, 0)).1 := by simp [List.getD, hi]
    have e2 : (l.map (·.2)).getD i 0 = (l.getD i (0, 0)).2 := by simp [List.getD, hi]
    rw [e, shF, ← e1, ← e2] at h2
    repeat' (first | (with_reducible intro h; (try simp only [h]); (try simp only [HS] at h)) | ((with_reducible apply scEnd_of); exact rfl; exact rfl) | ((with_reducible apply ScW_of); rfl; rfl; trivial) | with_reducible first | apply Br_of | refine O1 ?_ | refine O2 ?_ | refine O3 ?_ | refine O4 ?_ | refine O5 ?_ | refine CI ?_ | refine CJ ?_ | refine CQp ?_ | refine CQ ?_ | simp (maxSteps := 1000000) (disch := omega) only [go_sem])
    all_goals (try (exfalso; omega))
    · rw [← h2, if_pos h]
    · rw [if_neg h] at h2; exact LoopQ_of (i + 1) rfl ⟨by omega, h2⟩ (by omega)
  · have e : i = l.length := by omega
    subst e
    rw [List.drop_length] at h2
    repeat' (first | (with_reducible intro h; (try simp only [h]); (try simp only [HS] at h)) | ((with_reducible apply scEnd_of); exact rfl; exact rfl) | ((with_reducible apply ScW_of); rfl; rfl; trivial) | with_reducible first | apply Br_of | refine O1 ?_ | refine O2 ?_ | refine O3 ?_ | refine O4 ?_ | refine O5 ?_ | refine CI ?_ | refine CJ ?_ | refine CQp ?_ | refine CQ ?_ | simp (maxSteps := 1000000) (disch := omega) only [go_sem])
    all_goals (try (exfalso; omega))
    rw [← h2]; rfl
instance g275 (l : List Pt) (x y : Int) : FcR Tryz.prog 275 [⟨.one, [.ro 2 (rowsP l)]⟩, ⟨.agg, [.int .i64 x, .int .i64 y]⟩] [] (l.length ≤ 1000000) (List Pt) (fun p => p.length ≤ l.length + 1) (fun p => ⟨.one, [.own 2 (rowsP p)]⟩) (fun p => [⟨.one, [.ro 2 (rowsP l)]⟩, ⟨.agg, [.int .i64 x, .int .i64 y]⟩]) (fun p => []) := by
  refine FR_of m275 rfl fun hyp => ?_
  repeat' (first | (with_reducible intro h; (try simp only [h]); (try simp only [HS] at h)) | ((with_reducible apply scEnd_of); exact rfl; exact rfl) | ((with_reducible apply ScW_of); rfl; rfl; trivial) | with_reducible first | apply Br_of | refine O1 ?_ | refine O2 ?_ | refine O3 ?_ | refine O4 ?_ | refine O5 ?_ | refine CI ?_ | refine CJ ?_ | refine CQp ?_ | refine CQ ?_ | simp (maxSteps := 1000000) (disch := omega) only [go_sem])
  all_goals (try (exfalso; omega))
  refine LoopK_of (α := Nat × Bool × List Pt) (fun p => ⟨[(7, i64 p.1), (6, bl p.2.1), (5, ⟨.one, [.own 2 (rowsP p.2.2)]⟩), (3, ⟨.one, [.ptr 3 0]⟩), (0, ⟨.one, [.ro 2 (rowsP l)]⟩)], [(3, [.int .i64 x, .int .i64 y])], [(0, ⟨.one, [.ro 2 (rowsP l)]⟩), (1, ⟨.agg, [.int .i64 x, .int .i64 y]⟩)]⟩) (fun p => p.1 ≤ l.length ∧ p.2.2.length ≤ p.1 + (if p.2.1 = true then 1 else 0)) (fun p => l.length - p.1) (0, false, []) rfl ⟨Nat.zero_le _, Nat.le_refl _⟩ ?_
  rintro ⟨i, q, o⟩ ⟨h1, h2⟩
  simp only at h1 h2
  cases q
  all_goals simp only [Bool.false_eq_true, if_false, if_true] at h2
  all_goals repeat' (first | (with_reducible intro h; (try simp only [h]); (try simp only [HS] at h)) | ((with_reducible apply scEnd_of); exact rfl; exact rfl) | ((with_reducible apply ScW_of); rfl; rfl; trivial) | with_reducible first | apply Br_of | refine O1 ?_ | refine O2 ?_ | refine O3 ?_ | refine O4 ?_ | refine O5 ?_ | refine CI ?_ | refine CJ ?_ | refine CQp ?_ | refine CQ ?_ | simp (maxSteps := 1000000) (disch := omega) only [go_sem])
  all_goals (try (exfalso; omega))
  all_goals first | (apply LoopQ_3; rfl; exact ⟨by dsimp only; omega, by (first | rw [if_pos rfl] | rw [if_neg (by simp)]); simp only [List.length_append, List.length_cons, List.length_nil]; omega⟩; (dsimp only; omega)) | (apply FinR_1; (first | with_reducible rfl | rfl); rfl; rfl; ((first | omega | (simp only [List.length_append, List.length_cons, List.length_nil]; omega))))
instance g238 (l m : List Pt) : FcR Tryz.prog 238 [⟨.one, [.ro 2 (rowsP l)]⟩, ⟨.one, [.ro 2 (rowsP m)]⟩] [] (l.length ≤ 100000 ∧ m.length ≤ 100000) (List Pt) (fun p => p.length ≤ l.length + m.length) (fun p => ⟨.one, [.own 2 (rowsP p)]⟩) (fun p => [⟨.one, [.ro 2 (rowsP l)]⟩, ⟨.one, [.ro 2 (rowsP m)]⟩]) (fun p => []) := by
  refine FR_of m238 rfl fun hyp => ?_
  repeat' (first | (with_reducible intro h; (try simp only [h]); (try simp only [HS] at h)) | ((with_reducible apply scEnd_of); exact rfl; exact rfl) | ((with_reducible apply ScW_of); rfl; rfl; trivial) | with_reducible first | apply Br_of | refine O1 ?_ | refine O2 ?_ | refine O3 ?_ | refine O4 ?_ | refine O5 ?_ | refine CI ?_ | refine CJ ?_ | refine CQp ?_ | refine CQ ?_ | simp (maxSteps := 1000000) (disch := omega) only [go_sem])
  all_goals (try (exfalso; omega))
  refine LoopK_of (α := Nat × List Pt) (fun p => ⟨[(6, i64 p.1), (5, ⟨.one, [.own 2 (rowsP p.2)]⟩), (1, ⟨.one, [.ro 2 (rowsP m)]⟩)], [], [(0, ⟨.one, [.ro 2 (rowsP l)]⟩), (1, ⟨.one, [.ro 2 (rowsP m)]⟩)]⟩) (fun p => p.1 ≤ m.length ∧ p.2.length ≤ l.length + p.1) (fun p => m.length - p.1) (0, l) ?h0 ⟨Nat.zero_le _, Nat.le_refl _⟩ ?_
  case h0 => rfl
  rintro ⟨i, o⟩ ⟨h1, h2⟩
  simp only at h1 h2
  repeat' (first | (with_reducible intro h; (try simp only [h]); (try simp only [HS] at h)) | ((with_reducible apply scEnd_of); exact rfl; exact rfl) | ((with_reducible apply ScW_of); rfl; rfl; trivial) | with_reducible first | apply Br_of | refine O1 ?_ | refine O2 ?_ | refine O3 ?_ | refine O4 ?_ | refine O5 ?_ | refine CI ?_ | refine CJ ?_ | refine CQp ?_ | refine CQ ?_ | simp (maxSteps := 1000000) (disch := omega) only [go_sem])
  all_goals (try (exfalso; omega))
  all_goals first | (apply LoopQ_2; rfl; exact ⟨by dsimp only; omega, by dsimp only; omega⟩; (dsimp only; omega)) | (apply FinR_1; (first | with_reducible rfl | rfl); rfl; rfl; (omega))
theorem d2m (n : Nat) : n * 2 % 2 = 0 := by omega
theorem d2d (n : Nat) : n * 2 / 2 = n := by omega
theorem fin_pos2 {s : ByteArray} (h : 0 ≤ finV s.size (varsO 2 (bytes s))) : 0 < finV s.size (varsO 2 (bytes s)) := by
  rcases hv : varsO 2 (bytes s) with _ | ⟨v, r⟩
  · rw [hv, finV] at h; omega
  · obtain ⟨h1, h2, h3⟩ := varsO_some 2 _ v r (isB_bytes s) hv
    have h4 := congrArg List.length h3
    have h5 := encL_pos (fun i => v.getD i 0) (n := 2) (by omega)
    rw [bytes_length, List.length_append] at h4
    simp only [finV]
    omega
instance g239 (d : ByteArray) : FcR Tryz.prog 239 [st1 d] [] (d.size ≤ 1152921504606) (List Pt × Bool) (fun p => p.1.length ≤ 8) (fun p => ⟨.tup [(false, 1), (false, 1)], [.own 2 (rowsP p.1), .bool p.2]⟩) (fun p => [st1 d]) (fun p => []) := by
  refine FR_of m239 rfl fun hyp => ?_
  repeat' (first | (with_reducible intro h; (try simp only [h]); (try simp only [HS] at h)) | ((with_reducible apply scEnd_of); exact rfl; exact rfl) | ((with_reducible apply ScW_of); rfl; rfl; trivial) | with_reducible first | apply Br_of | refine O1 ?_ | refine O2 ?_ | refine O3 ?_ | refine O4 ?_ | refine O5 ?_ | refine CI ?_ | refine CJ ?_ | refine CQp ?_ | refine CQ ?_ | simp (maxSteps := 1000000) (disch := omega) only [go_sem])
  all_goals (try (exfalso; omega))
  refine LoopK_of (α := ByteArray × List Pt) (fun p => ⟨[(4, ⟨.one, [.own 2 (rowsP p.2)]⟩), (0, st1 p.1)], [], [(0, st1 d)]⟩) (fun p => p.1.size ≤ d.size ∧ p.2.length ≤ 8) (fun p => p.1.size) (d, []) rfl ⟨Nat.le_refl _, Nat.zero_le _⟩ ?_
  rintro ⟨s, l⟩ ⟨h1, h2⟩
  simp only at h1 h2
  have f1 := fin_fact (n := 2) (z := s.size) (b := bytes s) (isB_bytes s) (by rw [bytes_length]; omega)
  have q1 := fun h => (f1 h).1
  have q3 := fun h => (f1 h).2.1
  have q4 := fin_pos2 (s := s)
  clear f1
  have hx : (s.extract (finV s.size (varsO 2 (bytes s))).toNat s.size).size = s.size - (finV s.size (varsO 2 (bytes s))).toNat := by rw [ByteArray.size_extract]; omega
  by_cases hk : 0 ≤ (finV s.size (varsO 2 (bytes s)))
  · have w1 := q1 hk
    have w3 := q3 hk
    have w4 := q4 hk
    repeat' (first | (with_reducible intro h; (try simp only [h]); (try simp only [HS] at h)) | ((with_reducible apply scEnd_of); exact rfl; exact rfl) | ((with_reducible apply ScW_of); rfl; rfl; trivial) | with_reducible first | apply Br_of | refine O1 ?_ | refine O2 ?_ | refine O3 ?_ | refine O4 ?_ | refine O5 ?_ | refine CI ?_ | refine CJ ?_ | refine CQp ?_ | refine CQ ?_ | simp (maxSteps := 1000000) (disch := omega) only [go_sem, d2m, d2d])
    all_goals (try (exfalso; omega))
    all_goals first | (apply LoopQ_2 (x := s.extract (finV s.size (varsO 2 (bytes s))).toNat s.size); rfl; exact ⟨by dsimp only; omega, by simp only [List.length_append, List.length_cons, List.length_nil]; omega⟩; (dsimp only; omega)) | (apply FinR_p (x := ([] : List Pt)); (first | with_reducible rfl | rfl); rfl; rfl; (exact Nat.zero_le _)) | (apply FinR_p (x := l); (first | with_reducible rfl | rfl); rfl; rfl; (exact h2))
  · repeat' (first | (with_reducible intro h; (try simp only [h]); (try simp only [HS] at h)) | ((with_reducible apply scEnd_of); exact rfl; exact rfl) | ((with_reducible apply ScW_of); rfl; rfl; trivial) | with_reducible first | apply Br_of | refine O1 ?_ | refine O2 ?_ | refine O3 ?_ | refine O4 ?_ | refine O5 ?_ | refine CI ?_ | refine CJ ?_ | refine CQp ?_ | refine CQ ?_ | simp (maxSteps := 1000000) (disch := omega) only [go_sem])
    all_goals (try (exfalso; omega))
    all_goals first | (apply FinR_p (x := ([] : List Pt)); (first | with_reducible rfl | rfl); rfl; rfl; (exact Nat.zero_le _)) | (apply FinR_p (x := l); (first | with_reducible rfl | rfl); rfl; rfl; (exact h2))
@[go_sem ↓] theorem rootCell_gho (st : St) (i c : Nat) : rootCell st (.gho i c) = (look st.gh i).get c := rfl
@[go_sem ↓] theorem setRoot_gho (st : St) (i c : Nat) (x : Cell) : setRoot st (.gho i c) x = { st with gh := updS st.gh i (SV.set c x) } := rfl
theorem m11m (n : Nat) : (n * 11 + 7 + 3) % 11 = 10 := by omega
theorem m11d (n : Nat) : (n * 11 + 7 + 3) / 11 = n := by omega
abbrev yr195_0:=O [0,0,8,8]<|o 3 (Bx 0)<|o 6 (.alloc [ij 0, oj 1, bj false, ij 0, sj, ij 0, ij 0, sj, ij 0, oj 11, oj 6])<|o 7 (.alloc [ij 0, ij 0, sj, ij 0, ij 0, sj, ij 0, oj 2, oj 11, ij 0, ij 0])<|ac 8 (kb false)<|z
abbrev yr195_1:=O [2,2,13,23]<|fa 13 0 3<|ld 14 13<|fa 15 3 3<|la 16 5 15<|mv 17 1<|fa 18 9 3<|ld 19 18<|fa 20 8 3<|ld 21 20<|mv 22 2<|o 23 (.build [ij 0, ij 0, sj, ij 0, ij 0, sj, ij 0, oj 2, oj 11, ij 0, ij 0] [(0, 1, .s 14), (1, 5, .s 16), (6, 1, .s 17), (8, 1, .s 19), (9, 1, .s 21), (10, 1, .s 22)])<|o 9 (.alloc [ij 0, ij 0, sj, ij 0, ij 0, sj, ij 0, oj 2, oj 11, ij 0, ij 0])<|on (So 11 9 23)<|z
abbrev yr195_2:=O []<|ac 10 (k 1)<|z
abbrev yr195_3:=O [32,33]<|mv 24 10<|fa 25 9 3<|ld 26 25<|o 27 (Ln 26)<|bi 28 .lss 24 27<|mv 29 28<|.sc 29 true (og 29 30 (Mv 1)<|og 29 31 (Bk .eql 30 0)<|z) [30,31] 32 none (.s 29) (.s 31) [24, 29]<|mv 33 32<|sa 33 (og 33 34 (Fa 3 3)<|og 33 35 (Fa 0 34)<|og 33 36 (Ld 35)<|og 33 37 (Bk .eql 36 2)<|z) [34,35,36,37] 38 37<|z
abbrev yr195_5:=O [12,51]<|fa 42 9 3<|ld 43 42<|mv 44 10<|o 45 (Ia 11 43 44)<|fa 46 7 45<|fa 47 3 46<|.op ⟨(some 48), none, Ld 47, [38, 47]⟩<|ca 49 49 [v 48]<|mv 41 49<|o 50 (Ex 0 41)<|o 51 (Ex 1 41)<|o 11 (.asg (.s 50) true)<|o 12 (.asg (.s 51) true)<|z
abbrev yr195_6:=O [11,56]<|fa 52 7 9<|ld 53 52<|mv 54 11<|ca 55 238 [v 53, v 54]<|fa 56 7 9<|on (So 1 56 55)<|z
abbrev yr195_4:=O [39,40]<|mv 39 10<|bk 40 .add 39 1<|sg 10 40<|z
abbrev yl195_0:=Kp [1,3,6,7,9,10] [3,6,7,9]<|Sq (Sq yr195_3<|If 38 .skip (.exit 0))<|Sq (.block 1 (Sq yr195_5<|yr195_6))<|yr195_4
abbrev yr195_7v:List XD:=[]
abbrev yr195_7t:List XD:=[⟨⟨none, none, So 11 7 62, []⟩, [0,1,2,3,4,5,6], [], [], none⟩, dk 8 (Ac (kb true)) [1,3,9,62] [0,1,2,3,4,5,6,7] []]
abbrev yr195_7u:List XD:=[dv 57 (Fa 0 3) [] [], dv 58 (Ld 57) [0] [], dv 59 (Fa 1 3) [] [], dv 60 (Ld 59) [2] [], dv 61 (.build [ij 0, oj 1, bj false, ij 0, sj, ij 0, ij 0, sj, ij 0, oj 11, oj 6] [(0, 1, .s 58), (1, 1, .s 60)]) [0,1,2,3] [], dv 62 (La 11 9) [] [], ⟨⟨none, none, So 11 6 61, []⟩, [0,1,2,3,4], [], [], none⟩]
abbrev y195:=Sq yr195_0<|Sq yr195_1<|Sq (Sq yr195_2<|.block 0 (.loop yl195_0))<|Sq (.any [] yr195_7v [] yr195_7u [[0,1,2,3,4,5,6],[0,1,2,3,4,6,5],[0,1,2,3,5,4,6],[0,1,2,5,3,4,6],[0,1,5,2,3,4,6],[0,2,1,3,4,5,6],[0,2,1,3,4,6,5],[0,2,1,3,5,4,6],[0,2,1,5,3,4,6],[0,2,3,1,4,5,6],[0,2,3,1,4,6,5],[0,2,3,1,5,4,6],[0,2,3,5,1,4,6],[0,2,5,1,3,4,6],[0,2,5,3,1,4,6],[0,5,1,2,3,4,6],[0,5,2,1,3,4,6],[0,5,2,3,1,4,6],[2,0,1,3,4,5,6],[2,0,1,3,4,6,5],[2,0,1,3,5,4,6],[2,0,1,5,3,4,6],[2,0,3,1,4,5,6],[2,0,3,1,4,6,5],[2,0,3,1,5,4,6],[2,0,3,5,1,4,6],[2,0,5,1,3,4,6],[2,0,5,3,1,4,6],[2,3,0,1,4,5,6],[2,3,0,1,4,6,5],[2,3,0,1,5,4,6],[2,3,0,5,1,4,6],[2,3,5,0,1,4,6],[2,5,0,1,3,4,6],[2,5,0,3,1,4,6],[2,5,3,0,1,4,6],[5,0,1,2,3,4,6],[5,0,2,1,3,4,6],[5,0,2,3,1,4,6],[5,2,0,1,3,4,6],[5,2,0,3,1,4,6],[5,2,3,0,1,4,6]] yr195_7t)<|.ret
theorem my195:fnOk Tryz.prog 195 y195 [.cell 6 11 true, .cell 7 11 true, .tmp 8] 3=true:=by kernel_rfl
instance g195 (a0 : Int) (a1 : List Int) (a2 : Bool) (a3 : Int) (a4 : ByteArray) (a5 a6 : Int) (a7 : ByteArray) (a8 : Int) (a9 : List LegV) (a10 : List TodoV) (k t : Int) : FcR Tryz.prog 195 [⟨.agg, [.int .i64 a0, .own 1 (rowsI a1), .bool a2, .int .i64 a3, .str a4, .int .i64 a5, .int .i64 a6, .str a7, .int .i64 a8, .own 11 (rows a9), .own 6 (rows a10)]⟩, i64 k, i64 t] [] (a9.length ≤ 1000 ∧ (∀ e ∈ a9, e.fit)) (List Pt) (fun p => p.length ≤ 60 * (a9.length + 1)) (fun p => ⟨.tup [(true, 11), (true, 11), (false, 1)], [.int .i64 a0, .own 1 (rowsI a1), .bool false, .int .i64 0, .str ⟨#[]⟩, .int .i64 0, .int .i64 0, .str ⟨#[]⟩, .int .i64 0, .own 11 [], .own 6 [], .int .i64 a0, .int .i64 a3, .str a4, .int .i64 a5, .int .i64 a6, .str a7, .int .i64 k, .own 2 (rowsP p), .own 11 (rows a9), .int .i64 a8, .int .i64 t, .bool true]⟩) (fun p => [⟨.agg, [.int .i64 a0, .undef, .bool a2, .int .i64 a3, .str a4, .int .i64 a5, .int .i64 a6, .str a7, .int .i64 a8, .undef, .own 6 (rows a10)]⟩, i64 k, i64 t]) (fun p => []) := by
  refine FR_of my195 rfl fun hyp => ?_
  repeat' (first | (with_reducible intro h; (try simp only [h]); (try simp only [HS] at h)) | ((with_reducible apply scEnd_of); exact rfl; exact rfl) | ((with_reducible apply ScW_of); rfl; rfl; trivial) | with_reducible first | apply Br_of | refine O1 ?_ | refine O2 ?_ | refine O3 ?_ | refine O4 ?_ | refine O5 ?_ | refine CI ?_ | refine CJ ?_ | refine CQp ?_ | refine CQ ?_ | simp (maxSteps := 1000000) (disch := omega) only [go_sem])
  all_goals (try (exfalso; omega))
  refine LoopK_of (α := Nat × List Pt) (fun p => ⟨[(10, i64 p.1), (9, ⟨.one, [.ptr 9 0]⟩), (7, ⟨.one, [.ptr 7 0]⟩), (6, ⟨.one, [.ptr 6 0]⟩), (3, ⟨.one, [.ptr 3 0]⟩), (1, i64 k)], [(9, [.int .i64 a0, .int .i64 a3, .str a4, .int .i64 a5, .int .i64 a6, .str a7, .int .i64 k, .own 2 (rowsP p.2), .al ⟨.gho 0 9, []⟩, .int .i64 a8, .int .i64 t]), (7, [ij 0, ij 0, sj, ij 0, ij 0, sj, ij 0, oj 2, oj 11, ij 0, ij 0]), (6, [ij 0, oj 1, bj false, ij 0, sj, ij 0, ij 0, sj, ij 0, oj 11, oj 6]), (3, [.int .i64 a0, .al ⟨.gho 0 1, []⟩, .bool a2, .int .i64 a3, .str a4, .int .i64 a5, .int .i64 a6, .str a7, .int .i64 a8, .al ⟨.gho 0 9, []⟩, .al ⟨.gho 0 10, []⟩])], [(0, ⟨.agg, [.int .i64 a0, .own 1 (rowsI a1), .bool a2, .int .i64 a3, .str a4, .int .i64 a5, .int .i64 a6, .str a7, .int .i64 a8, .own 11 (rows a9), .own 6 (rows a10)]⟩), (1, i64 k), (2, i64 t)]⟩) (fun p => (1 ≤ p.1 ∧ p.1 ≤ a9.length + 1) ∧ p.2.length ≤ 60 * p.1) (fun p => a9.length + 1 - p.1) (1, []) rfl ⟨⟨Nat.le_refl _, by dsimp only; omega⟩, Nat.zero_le _⟩ ?_
  rintro ⟨i, q⟩ ⟨⟨h0, h1⟩, h2⟩
  simp only at h0 h1 h2
  have hb := rblock_len (a9.getD i default).Answer.d
  repeat' (first | (with_reducible intro h; (try simp only [h]); (try simp only [HS] at h)) | ((with_reducible apply scEnd_of); exact rfl; exact rfl) | ((with_reducible apply ScW_of); rfl; rfl; trivial) | with_reducible first | apply Br_of | refine O1 ?_ | refine O2 ?_ | refine O3 ?_ | refine O4 ?_ | refine O5 ?_ | refine CI ?_ | refine CJ ?_ | refine CQp ?_ | refine CQ ?_ | simp (maxSteps := 1000000) (disch := omega) only [go_sem, m11m, m11d])
  all_goals (try (exfalso; omega))
  all_goals first | (apply LoopQ_2; rfl; exact ⟨⟨by dsimp only; omega, by dsimp only; omega⟩, by dsimp only; omega⟩; (dsimp only; omega)) | (apply FinR_1 (x := q); (first | with_reducible rfl | rfl); rfl; rfl; (omega))
theorem CQ_call {P : Program} {f0 : FuncId} {args : List SV} {rf : Refs} {pre : Prop} {k0 : SV → List SV → Refs → Prop} {β : Type} {I : CallV × β → Prop} {res : CallV × β → SV} {args' : CallV × β → List SV} {rf' : CallV × β → Refs} [i0 : FcR P f0 args rf pre (CallV × β) I res args' rf'] (h : ∀ v0 v1 v2 v3 v4 z, I (⟨v0, v1, v2, v3, v4⟩, z) → k0 (res (⟨v0, v1, v2, v3, v4⟩, z)) (args' (⟨v0, v1, v2, v3, v4⟩, z)) (rf' (⟨v0, v1, v2, v3, v4⟩, z)))
    (hc : pre := by first | omega | trivial | assumption | (push_cast; omega) | ((repeat' apply And.intro) <;> first | assumption | omega | (push_cast; omega))) : CallR P f0 args rf k0 := i0.of hc fun x => h x.1.Kind x.1.Key x.1.From x.1.To x.1.Data x.2
theorem CutK_call {β : Type} (n : Nat) (S : CallV × β → St) (I : CallV × β → Prop) {P : Program} {sl rfs : List Nat} {a b : XCode} {K : XExit → St → Prop} {st : St} (h : W P a (thenK (CutQ sl rfs S I) K) st)
    (h2 : ∀ v0 v1 v2 v3 v4 z, I (⟨v0, v1, v2, v3, v4⟩, z) → W P b K (S (⟨v0, v1, v2, v3, v4⟩, z))) : W P (SqC n a (.keep sl rfs b)) K st := CutK_of n S I h fun x => h2 x.1.Kind x.1.Key x.1.From x.1.To x.1.Data x.2
theorem rowsP_one (a b : Int) : ([[.int .i64 a, .int .i64 b]] : List (List D)) = rowsP [(a, b)] := rfl
theorem strx (s : ByteArray) : (s ++ ⟨#[120]⟩).size = s.size + 1 := by rw [ByteArray.size_append, show (⟨#[120]⟩ : ByteArray).size = 1 from rfl]
abbrev y120:=Sq r120_0<|Sq r120_1<|Sq r120_2<|Sq r120_3<|Sq r120_4<|SqC 1 (Sq r120_5<|.block 0 (Sq r120_7<|If 22 (Sq r120_8<|r120_9) (Sq r120_10<|If 30 (Sq r120_11<|Sq r120_12<|r120_13) (Sq r120_14<|If 42 r120_15 r120_6))))<|Kp [0,2,4] [2,4]<|SqC 2 (Sq r120_16<|If 48 (Sq r120_17<|.block 1 (Sq r120_19<|If 55 r120_20 (Sq r120_21<|If 61 r120_22 (Sq r120_23<|If 67 r120_24 r120_18)))) .skip)<|Kp [0,2,4] [2,4]<|SqC 3 (Sq r120_25<|If 74 r120_26 .skip)<|Kp [2,4] [2,4]<|Sq r120_27<|.ret
theorem my120:fnOk Tryz.prog 120 y120 [.cell 2 5 true] 1=true:=by kernel_rfl
instance g120 (b : List Int) (u : Value) (c : Cu b.length)  : FcR Tryz.prog 120 [⟨.one, [.ptr 1000000 0]⟩] [(1000000, [.rov u 1 (rowsB b), .int .i64 c.i, .int .i64 c.h])] (b.length ≤ 1048576) (CallV × Cu b.length) (fun p => p.1.Key.size ≤ 100 ∧ p.1.Data.size ≤ 1001) (fun p => ⟨.agg, [.int .i64 p.1.Kind, .str p.1.Key, .int .i64 p.1.From, .int .i64 p.1.To, .str p.1.Data]⟩) (fun p => [⟨.one, [.ptr 1000000 0]⟩]) (fun p => [(1000000, [.rov u 1 (rowsB b), .int .i64 p.2.i, .int .i64 p.2.h])]) := by
  refine FR_of my120 rfl fun hyp => ?_
  repeat' (first | (with_reducible intro h; (try simp only [h]); (try simp only [HS] at h)) | ((with_reducible apply scEnd_of); exact rfl; exact rfl) | ((with_reducible apply ScW_of); rfl; rfl; trivial) | with_reducible first | apply Br_of | refine O1 ?_ | refine O2 ?_ | refine O3 ?_ | refine O4 ?_ | refine O5 ?_ | refine CI ?_ | refine CJ ?_ | refine CQp ?_ | refine CQ ?_ | refine CI ?_ (by simp) | refine CutK_call (β := Cu b.length) 1 (fun p => ⟨[(4, ⟨.one, [.ptr 4 0]⟩), (2, ⟨.one, [.ptr 2 0]⟩), (0, ⟨.one, [.ptr 1000000 0]⟩)], [(1000000, [.rov u 1 (rowsB b), .int .i64 p.2.i, .int .i64 p.2.h]), (4, [.int .i64 p.1.Kind, .str p.1.Key, .int .i64 p.1.From, .int .i64 p.1.To, .str p.1.Data]), (2, [ij 0, sj, ij 0, ij 0, sj])], [(0, ⟨.one, [.ptr 1000000 0]⟩)]⟩) (fun p => p.1.Key.size ≤ 100 ∧ p.1.Data.size ≤ 1000) ?_ ?_ | refine CutK_call (β := Cu b.length) 2 (fun p => ⟨[(4, ⟨.one, [.ptr 4 0]⟩), (2, ⟨.one, [.ptr 2 0]⟩), (0, ⟨.one, [.ptr 1000000 0]⟩)], [(1000000, [.rov u 1 (rowsB b), .int .i64 p.2.i, .int .i64 p.2.h]), (4, [.int .i64 p.1.Kind, .str p.1.Key, .int .i64 p.1.From, .int .i64 p.1.To, .str p.1.Data]), (2, [ij 0, sj, ij 0, ij 0, sj])], [(0, ⟨.one, [.ptr 1000000 0]⟩)]⟩) (fun p => p.1.Key.size ≤ 100 ∧ p.1.Data.size ≤ 1001) ?_ ?_ | refine CutK_call (β := Cu b.length) 3 (fun p => ⟨[(4, ⟨.one, [.ptr 4 0]⟩), (2, ⟨.one, [.ptr 2 0]⟩)], [(1000000, [.rov u 1 (rowsB b), .int .i64 p.2.i, .int .i64 p.2.h]), (4, [.int .i64 p.1.Kind, .str p.1.Key, .int .i64 p.1.From, .int .i64 p.1.To, .str p.1.Data]), (2, [ij 0, sj, ij 0, ij 0, sj])], [(0, ⟨.one, [.ptr 1000000 0]⟩)]⟩) (fun p => p.1.Key.size ≤ 100 ∧ p.1.Data.size ≤ 1001) ?_ ?_ | simp (maxSteps := 1000000) (disch := omega) only [go_sem, rowsP_one, List.size_toArray, List.length_cons, List.length_nil])
  all_goals (try (exfalso; omega))
  all_goals first | (apply CutQ_p (x := (⟨_, _, _, _, _⟩ : CallV)); rfl; (refine ⟨?_, ?_⟩ <;> first | (dsimp only; omega) | exact Nat.le_trans (blockS_le _) (by decide) | exact Nat.le_trans (mem_leA 9 (by assumption) (by rfl)) (by decide) | exact Nat.zero_le _ | (dsimp only; rw [strx]; omega) | (dsimp only; decide))) | (apply FinR_p (x := (⟨_, _, _, _, _⟩ : CallV)); (first | with_reducible rfl | rfl); rfl; rfl; (refine ⟨?_, ?_⟩ <;> first | (dsimp only; omega) | exact Nat.le_trans (blockS_le _) (by decide) | exact Nat.le_trans (mem_leA 9 (by assumption) (by rfl)) (by decide) | exact Nat.zero_le _ | (dsimp only; rw [strx]; omega) | (dsimp only; decide)))
theorem m1m (n : Nat) : (n * 2 + 1) % 2 = 1 := by omega
theorem m1d (n : Nat) : (n * 2 + 1) / 2 = n := by omega
def plP (x : TodoV) : Prop := (1 ≤ x.Group ∧ x.Group ≤ 2) ∧ x.Op.key.size ≤ 100 ∧ x.Op.d.size ≤ 2000
theorem plP_snoc {l : List TodoV} {x : TodoV} (h : ∀ e ∈ l, plP e) (hx : plP x) : ∀ e ∈ l ++ [x], plP e := fun e he => by
  rcases List.mem_append.1 he with he | he
  · exact h e he
  · rw [List.mem_singleton] at he; subst he; exact hx
theorem plP_nil : ∀ e ∈ ([] : List TodoV), plP e := fun e he => by simp at he
instance g196 (a0 : Int) (a1 : ByteArray) (a2 a3 : Int) (a4 : ByteArray) (c i m : Int) (d : ByteArray) : FcR Tryz.prog 196 [⟨.agg, [.int .i64 a0, .str a1, .int .i64 a2, .int .i64 a3, .str a4]⟩, ⟨.agg, [.int .i64 c, .int .i64 i, .int .i64 m, .str d]⟩] [] (callB a0 a1 a2 a3 a4 = true ∧ a1.size ≤ 100 ∧ a4.size ≤ 2000 ∧ d.size ≤ 1152921504606) (List TodoV × Int) (fun p => p.1.length ≤ 2 ∧ ∀ e ∈ p.1, plP e) (fun p => ⟨.tup [(false, 1), (false, 1)], [.own 6 (rows p.1), .int .i64 p.2]⟩) (fun p => [⟨.agg, [.int .i64 a0, .str a1, .int .i64 a2, .int .i64 a3, .str a4]⟩, ⟨.agg, [.int .i64 c, .int .i64 i, .int .i64 m, .str d]⟩]) (fun p => []) := by
  refine FR_of m196 rfl fun hyp => ?_
  obtain ⟨y0, y1, y2, y3⟩ := id hyp
  have hk := call_k y0
  have hp : a0 = 1 → _ := fun h => rblock_pts (d := a4) (by rcases hk with h1 | h1 | h1 | h1; exact h1.2; all_goals omega)
  have hl := rblock_len a4
  rcases hk with h1 | h1 | h1 | h1
  · have hp := hp h1.1
    have hp0 := hp.1
    repeat' (first | (with_reducible intro h; (try simp only [h]); (try simp only [HS] at h)) | ((with_reducible apply scEnd_of); exact rfl; exact rfl) | ((with_reducible apply ScW_of); rfl; rfl; trivial) | with_reducible first | apply Br_of | refine O1 ?_ | refine O2 ?_ | refine O3 ?_ | refine O4 ?_ | refine O5 ?_ | refine CI ?_ | refine CJ ?_ | refine CQp ?_ | refine CQ ?_ | simp (maxSteps := 1000000) (disch := omega) only [go_sem, m2m, m2d, m1m, m1d])
    all_goals (try (exfalso; omega))
    all_goals first | (apply FinR_p (x := ([] : List TodoV)); (first | with_reducible rfl | rfl); rfl; rfl; exact ⟨Nat.zero_le _, plP_nil⟩) | skip
    rename_i rts is hr hq
    refine LoopK_of (α := Nat) (fun p => ⟨[(11, i64 p), (9, ⟨.one, [.own 2 (rowsP (rblock a4).1)]⟩), (8, bl is), (7, ⟨.one, [.own 2 (rowsP rts)]⟩), (6, ⟨.one, [.own 6 (rows ([] : List TodoV))]⟩), (2, ⟨.one, [.ptr 2 0]⟩)], [(2, [.int .i64 a0, .str a1, .int .i64 a2, .int .i64 a3, .str a4])], [(0, ⟨.agg, [.int .i64 a0, .str a1, .int .i64 a2, .int .i64 a3, .str a4]⟩), (1, ⟨.agg, [.int .i64 c, .int .i64 i, .int .i64 m, .str d]⟩)]⟩) (fun p => p ≤ (rblock a4).1.length) (fun p => (rblock a4).1.length - p) 0 rfl (Nat.zero_le _) ?_
    intro p hq
    repeat' (first | (with_reducible intro h; (try simp only [h]); (try simp only [HS] at h)) | ((with_reducible apply scEnd_of); exact rfl; exact rfl) | ((with_reducible apply ScW_of); rfl; rfl; trivial) | with_reducible first | apply Br_of | refine O1 ?_ | refine O2 ?_ | refine O3 ?_ | refine O4 ?_ | refine O5 ?_ | refine CI ?_ | refine CJ ?_ | refine CQp ?_ | refine CQ ?_ | simp (maxSteps := 1000000) (disch := omega) only [go_sem, m2m, m2d, m1m, m1d])
    all_goals (try (exfalso; omega))
    all_goals first | exact LoopQ_of (p + 1) rfl (by omega) (by omega) | (apply FinR_p (x := ([] : List TodoV)); (first | with_reducible rfl | rfl); rfl; rfl; exact ⟨Nat.zero_le _, plP_nil⟩) | skip
    refine LoopK_of (α := Nat × List TodoV) (fun p => ⟨[(12, i64 p.1), (9, ⟨.one, [.own 2 (rowsP (rblock a4).1)]⟩), (7, ⟨.one, [.own 2 (rowsP rts)]⟩), (6, ⟨.one, [.own 6 (rows p.2)]⟩), (2, ⟨.one, [.ptr 2 0]⟩)], [(2, [.int .i64 a0, .str a1, .int .i64 a2, .int .i64 a3, .str a4])], [(0, ⟨.agg, [.int .i64 a0, .str a1, .int .i64 a2, .int .i64 a3, .str a4]⟩), (1, ⟨.agg, [.int .i64 c, .int .i64 i, .int .i64 m, .str d]⟩)]⟩) (fun p => p.1 ≤ 2 ∧ p.2.length ≤ p.1 ∧ (∀ e ∈ p.2, plP e)) (fun p => 2 - p.1) (0, []) rfl ⟨by decide, by decide, plP_nil⟩ ?_
    rintro ⟨s, l⟩ ⟨hl1, hl2, hl3⟩
    simp only at hl1 hl2 hl3
    repeat' (first | (with_reducible intro h; (try simp only [h]); (try simp only [HS] at h)) | ((with_reducible apply scEnd_of); exact rfl; exact rfl) | ((with_reducible apply ScW_of); rfl; rfl; trivial) | with_reducible first | apply Br_of | refine O1 ?_ | refine O2 ?_ | refine O3 ?_ | refine O4 ?_ | refine O5 ?_ | refine CI ?_ | refine CJ ?_ | refine CQp ?_ | refine CQ ?_ | simp (maxSteps := 1000000) (disch := omega) only [go_sem, m2m, m2d, m1m, m1d])
    all_goals (try (exfalso; omega))
    all_goals first | (apply FinR_p (x := l); (first | with_reducible rfl | rfl); rfl; rfl; exact ⟨by dsimp only; omega, hl3⟩) | skip
    refine LoopK_of (α := Nat × List Pt) (fun p => ⟨[(14, i64 p.1), (13, ⟨.one, [.own 2 (rowsP p.2)]⟩), (12, i64 s), (9, ⟨.one, [.own 2 (rowsP (rblock a4).1)]⟩), (7, ⟨.one, [.own 2 (rowsP rts)]⟩), (6, ⟨.one, [.own 6 (rows l)]⟩), (2, ⟨.one, [.ptr 2 0]⟩)], [(2, [.int .i64 a0, .str a1, .int .i64 a2, .int .i64 a3, .str a4])], [(0, ⟨.agg, [.int .i64 a0, .str a1, .int .i64 a2, .int .i64 a3, .str a4]⟩), (1, ⟨.agg, [.int .i64 c, .int .i64 i, .int .i64 m, .str d]⟩)]⟩) (fun p => p.1 ≤ (rblock a4).1.length ∧ p.2.length ≤ p.1) (fun p => (rblock a4).1.length - p.1) (0, []) rfl ⟨Nat.zero_le _, Nat.zero_le _⟩ ?_
    rintro ⟨i1, q⟩ ⟨hq1, hq2⟩
    simp only at hq1 hq2
    repeat' (first | (with_reducible intro h; (try simp only [h]); (try simp only [HS] at h)) | ((with_reducible apply scEnd_of); exact rfl; exact rfl) | ((with_reducible apply ScW_of); rfl; rfl; trivial) | with_reducible first | apply Br_of | refine O1 ?_ | refine O2 ?_ | refine O3 ?_ | refine O4 ?_ | refine O5 ?_ | refine CI ?_ | refine CJ ?_ | refine CQp ?_ | refine CQ ?_ | simp (maxSteps := 1000000) (disch := omega) only [go_sem, m2m, m2d, m1m, m1d])
    all_goals (try (exfalso; omega))
    all_goals first | (apply LoopQ_2 (x := i1 + 1); rfl; exact ⟨by omega, by (first | omega | (simp only [List.length_append, List.length_cons, List.length_nil]; omega))⟩; (dsimp only; omega)) | (apply LoopQ_2 (x := s + 1); rfl; exact ⟨by dsimp only; omega, by (simp only [List.length_append, List.length_cons, List.length_nil]; omega), plP_snoc hl3 ⟨⟨by dsimp only; omega, by dsimp only; omega⟩, by first | exact y1 | exact Nat.zero_le _, by first | exact Nat.zero_le _ | exact Nat.le_trans (blockS_le _) (by decide)⟩⟩; (dsimp only; omega)) | (apply LoopQ_2 (x := s + 1) (y := l); rfl; exact ⟨by dsimp only; omega, by dsimp only; omega, hl3⟩; (dsimp only; omega))
  · repeat' (first | (with_reducible intro h; (try simp only [h]); (try simp only [HS] at h)) | ((with_reducible apply scEnd_of); exact rfl; exact rfl) | ((with_reducible apply ScW_of); rfl; rfl; trivial) | with_reducible first | apply Br_of | refine O1 ?_ | refine O2 ?_ | refine O3 ?_ | refine O4 ?_ | refine O5 ?_ | refine CI ?_ | refine CJ ?_ | refine CQp ?_ | refine CQ ?_ | simp (maxSteps := 1000000) (disch := omega) only [go_sem, m2m, m2d, m1m, m1d])
    all_goals (try (exfalso; omega))
    all_goals first | (apply FinR_p (x := ([] : List TodoV)); (first | with_reducible rfl | rfl); rfl; rfl; exact ⟨Nat.zero_le _, plP_nil⟩) | skip
    rename_i rts is hr n1 n2
    refine LoopK_of (α := Nat × List TodoV) (fun p => ⟨[(15, i64 p.1), (7, ⟨.one, [.own 2 (rowsP rts)]⟩), (6, ⟨.one, [.own 6 (rows p.2)]⟩), (2, ⟨.one, [.ptr 2 0]⟩)], [(2, [.int .i64 a0, .str a1, .int .i64 a2, .int .i64 a3, .str a4])], [(0, ⟨.agg, [.int .i64 a0, .str a1, .int .i64 a2, .int .i64 a3, .str a4]⟩), (1, ⟨.agg, [.int .i64 c, .int .i64 i, .int .i64 m, .str d]⟩)]⟩) (fun p => p.1 ≤ 2 ∧ p.2.length ≤ p.1 ∧ (∀ e ∈ p.2, plP e)) (fun p => 2 - p.1) (0, []) rfl ⟨by decide, by decide, plP_nil⟩ ?_
    rintro ⟨s, l⟩ ⟨hl1, hl2, hl3⟩
    simp only at hl1 hl2 hl3
    repeat' (first | (with_reducible intro h; (try simp only [h]); (try simp only [HS] at h)) | ((with_reducible apply scEnd_of); exact rfl; exact rfl) | ((with_reducible apply ScW_of); rfl; rfl; trivial) | with_reducible first | apply Br_of | refine O1 ?_ | refine O2 ?_ | refine O3 ?_ | refine O4 ?_ | refine O5 ?_ | refine CI ?_ | refine CJ ?_ | refine CQp ?_ | refine CQ ?_ | simp (maxSteps := 1000000) (disch := omega) only [go_sem, m2m, m2d, m1m, m1d])
    all_goals (try (exfalso; omega))
    all_goals first | (apply FinR_p (x := l); (first | with_reducible rfl | rfl); rfl; rfl; exact ⟨by dsimp only; omega, hl3⟩) | skip
    refine LoopK_of (α := Nat × Bool) (fun p => ⟨[(17, i64 p.1), (16, bl p.2), (15, i64 s), (7, ⟨.one, [.own 2 (rowsP rts)]⟩), (6, ⟨.one, [.own 6 (rows l)]⟩), (2, ⟨.one, [.ptr 2 0]⟩)], [(2, [.int .i64 a0, .str a1, .int .i64 a2, .int .i64 a3, .str a4])], [(0, ⟨.agg, [.int .i64 a0, .str a1, .int .i64 a2, .int .i64 a3, .str a4]⟩), (1, ⟨.agg, [.int .i64 c, .int .i64 i, .int .i64 m, .str d]⟩)]⟩) (fun p => p.1 ≤ rts.length) (fun p => rts.length - p.1) (0, false) rfl (Nat.zero_le _) ?_
    rintro ⟨i1, q⟩ hq1
    simp only at hq1
    repeat' (first | (with_reducible intro h; (try simp only [h]); (try simp only [HS] at h)) | ((with_reducible apply scEnd_of); exact rfl; exact rfl) | ((with_reducible apply ScW_of); rfl; rfl; trivial) | with_reducible first | apply Br_of | refine O1 ?_ | refine O2 ?_ | refine O3 ?_ | refine O4 ?_ | refine O5 ?_ | refine CI ?_ | refine CJ ?_ | refine CQp ?_ | refine CQ ?_ | simp (maxSteps := 1000000) (disch := omega) only [go_sem, m2m, m2d, m1m, m1d])
    all_goals (try (exfalso; omega))
    all_goals first | (apply LoopQ_2 (x := i1 + 1); rfl; exact (by dsimp only; omega); (dsimp only; omega)) | (apply LoopQ_2 (x := s + 1); rfl; exact ⟨by dsimp only; omega, by (simp only [List.length_append, List.length_cons, List.length_nil]; omega), plP_snoc hl3 ⟨⟨by dsimp only; omega, by dsimp only; omega⟩, by first | exact y1 | exact Nat.zero_le _, by first | exact Nat.zero_le _ | exact Nat.le_trans (blockS_le _) (by decide)⟩⟩; (dsimp only; omega)) | (apply LoopQ_2 (x := s + 1) (y := l); rfl; exact ⟨by dsimp only; omega, by dsimp only; omega, hl3⟩; (dsimp only; omega))
  · repeat' (first | (with_reducible intro h; (try simp only [h]); (try simp only [HS] at h)) | ((with_reducible apply scEnd_of); exact rfl; exact rfl) | ((with_reducible apply ScW_of); rfl; rfl; trivial) | with_reducible first | apply Br_of | refine O1 ?_ | refine O2 ?_ | refine O3 ?_ | refine O4 ?_ | refine O5 ?_ | refine CI ?_ | refine CJ ?_ | refine CQp ?_ | refine CQ ?_ | simp (maxSteps := 1000000) (disch := omega) only [go_sem, m2m, m2d, m1m, m1d])
    all_goals (try (exfalso; omega))
    all_goals first | (apply FinR_p (x := ([] : List TodoV)); (first | with_reducible rfl | rfl); rfl; rfl; exact ⟨Nat.zero_le _, plP_nil⟩) | skip
    rename_i rts is hr n1 n2
    refine LoopK_of (α := Nat × List TodoV) (fun p => ⟨[(18, i64 p.1), (6, ⟨.one, [.own 6 (rows p.2)]⟩), (3, ⟨.one, [.ptr 3 0]⟩)], [(3, [.int .i64 c, .int .i64 i, .int .i64 m, .str d])], [(0, ⟨.agg, [.int .i64 a0, .str a1, .int .i64 a2, .int .i64 a3, .str a4]⟩), (1, ⟨.agg, [.int .i64 c, .int .i64 i, .int .i64 m, .str d]⟩)]⟩) (fun p => p.1 ≤ 2 ∧ p.2.length ≤ p.1 ∧ (∀ e ∈ p.2, plP e)) (fun p => 2 - p.1) (0, []) rfl ⟨by decide, by decide, plP_nil⟩ ?_
    rintro ⟨s, l⟩ ⟨hl1, hl2, hl3⟩
    simp only at hl1 hl2 hl3
    repeat' (first | (with_reducible intro h; (try simp only [h]); (try simp only [HS] at h)) | ((with_reducible apply scEnd_of); exact rfl; exact rfl) | ((with_reducible apply ScW_of); rfl; rfl; trivial) | with_reducible first | apply Br_of | refine O1 ?_ | refine O2 ?_ | refine O3 ?_ | refine O4 ?_ | refine O5 ?_ | refine CI ?_ | refine CJ ?_ | refine CQp ?_ | refine CQ ?_ | simp (maxSteps := 1000000) (disch := omega) only [go_sem, m2m, m2d, m1m, m1d])
    all_goals (try (exfalso; omega))
    all_goals first | (apply FinR_p (x := l); (first | with_reducible rfl | rfl); rfl; rfl; exact ⟨by dsimp only; omega, hl3⟩) | (apply LoopQ_2 (x := s + 1); rfl; exact ⟨by dsimp only; omega, by (simp only [List.length_append, List.length_cons, List.length_nil]; omega), plP_snoc hl3 ⟨⟨by dsimp only; omega, by dsimp only; omega⟩, by first | exact y1 | exact Nat.zero_le _, by first | exact Nat.zero_le _ | exact Nat.le_trans (blockS_le _) (by decide)⟩⟩; (dsimp only; omega))
  · repeat' (first | (with_reducible intro h; (try simp only [h]); (try simp only [HS] at h)) | ((with_reducible apply scEnd_of); exact rfl; exact rfl) | ((with_reducible apply ScW_of); rfl; rfl; trivial) | with_reducible first | apply Br_of | refine O1 ?_ | refine O2 ?_ | refine O3 ?_ | refine O4 ?_ | refine O5 ?_ | refine CI ?_ | refine CJ ?_ | refine CQp ?_ | refine CQ ?_ | simp (maxSteps := 1000000) (disch := omega) only [go_sem, m2m, m2d, m1m, m1d])
    all_goals (try (exfalso; omega))
    all_goals first | (apply FinR_p (x := ([] : List TodoV)); (first | with_reducible rfl | rfl); rfl; rfl; exact ⟨Nat.zero_le _, plP_nil⟩)
abbrev y128:=Sq r128_0<|Sq r128_1<|Sq r128_2<|SqC 1 (Sq r128_3<|If 29 (Sq r128_4<|Sq (Sq r128_5<|.block 0 (.loop l128_0))<|Sq r128_10<|If 61 r128_11 .skip) .skip)<|Kp [0,3,4,5,6] [3,4,5,6]<|SqC 2 (Sq r128_12<|If 66 r128_13 .skip)<|Kp [0,3,4,5,6] [3,4,5,6]<|SqC 3 (Sq r128_14<|If 72 r128_15 .skip)<|Kp [0,3,4,5,6] [3,4,5,6]<|SqC 4 (Sq r128_16<|If 77 r128_17 .skip)<|Kp [0,3,4,5,6] [3,4,5,6]<|Sq (.any [0,2,3,4,5,6,7,8,9,10,11,14,1,12,13,15] r128_18v [] [] [] r128_18t)<|Sq (Sq r128_19<|If 98 r128_20 .skip)<|Sq r128_21<|.ret
theorem my128:fnOk Tryz.prog 128 y128 [.cell 4 10 true] 2=true:=by kernel_rfl
theorem var2_le (d : ByteArray) (a b : Int) : (d ++ varS a ++ varS b).size ≤ d.size + 14 := by
  have h1 := varS_le a
  have h2 := varS_le b
  simp only [ByteArray.size_append]
  omega
instance g128 (b : List Int) (u : Value) (c : Cu b.length) (a0 : Int) (a1 : List Int) (a2 : Bool) (a3 : Int) (a4 : ByteArray) (a5 a6 : Int) (a7 : ByteArray) (a8 : Int) (a9 : List LegV) (a10 : List TodoV) : FcR Tryz.prog 128 [⟨.one, [.ptr 1000000 0]⟩, ⟨.agg, [.int .i64 a0, .ro 1 (rowsI a1), .bool a2, .int .i64 a3, .str a4, .int .i64 a5, .int .i64 a6, .str a7, .int .i64 a8, .ro 11 (rows a9), .ro 6 (rows a10)]⟩] [(1000000, [.rov u 1 (rowsB b), .int .i64 c.i, .int .i64 c.h])] (b.length ≤ 1048576 ∧ 0 < a10.length ∧ a10.length ≤ 1000 ∧ a1.length ≤ 1000 ∧ (0 ≤ (a10.getD 0 default).Group ∧ (a10.getD 0 default).Group < a1.length) ∧ (-100 ≤ a0 ∧ a0 ≤ 100) ∧ (0 ≤ a1.getD (a10.getD 0 default).Group.toNat 0 ∧ a1.getD (a10.getD 0 default).Group.toNat 0 ≤ 1000001)) (MsgV × Cu b.length) (fun p => (-1000 ≤ p.1.fr ∧ p.1.fr ≤ 1000) ∧ (-1000 ≤ p.1.to ∧ p.1.to ≤ 1000) ∧ p.1.e.length ≤ 0 ∧ (∀ q ∈ p.1.e, q.2.size ≤ 8) ∧ p.1.d.size ≤ 2100) (fun p => ⟨.agg, [.int .i64 p.1.k, .int .i64 p.1.fr, .int .i64 p.1.to, .int .i64 p.1.tm, .int .i64 p.1.ix, .int .i64 p.1.it, .int .i64 p.1.cm, .bool p.1.y, .own 2 (rowsE p.1.e), .str p.1.d]⟩) (fun p => [⟨.one, [.ptr 1000000 0]⟩, ⟨.agg, [.int .i64 a0, .ro 1 (rowsI a1), .bool a2, .int .i64 a3, .str a4, .int .i64 a5, .int .i64 a6, .str a7, .int .i64 a8, .ro 11 (rows a9), .ro 6 (rows a10)]⟩]) (fun p => [(1000000, [.rov u 1 (rowsB b), .int .i64 p.2.i, .int .i64 p.2.h])]) := by
  refine FR_of my128 rfl fun hyp => ?_
  obtain ⟨y0, y1, y2, y3, y4, y5, y6⟩ := id hyp
  repeat' (first | (with_reducible intro h; (try simp only [h]); (try simp only [HS] at h)) | ((with_reducible apply scEnd_of); exact rfl; exact rfl) | ((with_reducible apply ScW_of); rfl; rfl; trivial) | with_reducible first | apply Br_of | refine O1 ?_ | refine O2 ?_ | refine O3 ?_ | refine O4 ?_ | refine O5 ?_ | refine CI ?_ | refine CJ ?_ | refine CQp ?_ | refine CQ ?_ | refine CutK_ans (β := Cu b.length) 1 (fun p => ⟨[(6, ⟨.one, [.ptr 6 0]⟩), (5, ⟨.one, [.ptr 5 0]⟩), (4, ⟨.one, [.ptr 4 0]⟩), (3, ⟨.one, [.ptr 3 0]⟩), (0, ⟨.one, [.ptr 1000000 0]⟩)], [(1000000, [.rov u 1 (rowsB b), .int .i64 p.2.i, .int .i64 p.2.h]), (6, [.int .i64 (a10.getD 0 default).Group, .int .i64 (a10.getD 0 default).Op.k, .str (a10.getD 0 default).Op.key, .int .i64 (a10.getD 0 default).Op.f, .int .i64 (a10.getD 0 default).Op.t, .str (a10.getD 0 default).Op.d]), (5, [.int .i64 p.1.c, .int .i64 p.1.i, .int .i64 p.1.m, .str p.1.d]), (4, [ij 0, ij 0, ij 0, ij 0, ij 0, ij 0, ij 0, bj false, oj 2, sj]), (3, [.int .i64 a0, .ro 1 (rowsI a1), .bool a2, .int .i64 a3, .str a4, .int .i64 a5, .int .i64 a6, .str a7, .int .i64 a8, .ro 11 (rows a9), .ro 6 (rows a10)])], [(0, ⟨.one, [.ptr 1000000 0]⟩), (1, ⟨.agg, [.int .i64 a0, .ro 1 (rowsI a1), .bool a2, .int .i64 a3, .str a4, .int .i64 a5, .int .i64 a6, .str a7, .int .i64 a8, .ro 11 (rows a9), .ro 6 (rows a10)]⟩)]⟩) (fun p => p.1.d.size ≤ 1000) ?_ ?_ | refine CutK_ans (β := Cu b.length) 2 (fun p => ⟨[(6, ⟨.one, [.ptr 6 0]⟩), (5, ⟨.one, [.ptr 5 0]⟩), (4, ⟨.one, [.ptr 4 0]⟩), (3, ⟨.one, [.ptr 3 0]⟩), (0, ⟨.one, [.ptr 1000000 0]⟩)], [(1000000, [.rov u 1 (rowsB b), .int .i64 p.2.i, .int .i64 p.2.h]), (6, [.int .i64 (a10.getD 0 default).Group, .int .i64 (a10.getD 0 default).Op.k, .str (a10.getD 0 default).Op.key, .int .i64 (a10.getD 0 default).Op.f, .int .i64 (a10.getD 0 default).Op.t, .str (a10.getD 0 default).Op.d]), (5, [.int .i64 p.1.c, .int .i64 p.1.i, .int .i64 p.1.m, .str p.1.d]), (4, [ij 0, ij 0, ij 0, ij 0, ij 0, ij 0, ij 0, bj false, oj 2, sj]), (3, [.int .i64 a0, .ro 1 (rowsI a1), .bool a2, .int .i64 a3, .str a4, .int .i64 a5, .int .i64 a6, .str a7, .int .i64 a8, .ro 11 (rows a9), .ro 6 (rows a10)])], [(0, ⟨.one, [.ptr 1000000 0]⟩), (1, ⟨.agg, [.int .i64 a0, .ro 1 (rowsI a1), .bool a2, .int .i64 a3, .str a4, .int .i64 a5, .int .i64 a6, .str a7, .int .i64 a8, .ro 11 (rows a9), .ro 6 (rows a10)]⟩)]⟩) (fun p => p.1.d.size ≤ 1000) ?_ ?_ | refine CutK_ans (β := Cu b.length) 3 (fun p => ⟨[(6, ⟨.one, [.ptr 6 0]⟩), (5, ⟨.one, [.ptr 5 0]⟩), (4, ⟨.one, [.ptr 4 0]⟩), (3, ⟨.one, [.ptr 3 0]⟩), (0, ⟨.one, [.ptr 1000000 0]⟩)], [(1000000, [.rov u 1 (rowsB b), .int .i64 p.2.i, .int .i64 p.2.h]), (6, [.int .i64 (a10.getD 0 default).Group, .int .i64 (a10.getD 0 default).Op.k, .str (a10.getD 0 default).Op.key, .int .i64 (a10.getD 0 default).Op.f, .int .i64 (a10.getD 0 default).Op.t, .str (a10.getD 0 default).Op.d]), (5, [.int .i64 p.1.c, .int .i64 p.1.i, .int .i64 p.1.m, .str p.1.d]), (4, [ij 0, ij 0, ij 0, ij 0, ij 0, ij 0, ij 0, bj false, oj 2, sj]), (3, [.int .i64 a0, .ro 1 (rowsI a1), .bool a2, .int .i64 a3, .str a4, .int .i64 a5, .int .i64 a6, .str a7, .int .i64 a8, .ro 11 (rows a9), .ro 6 (rows a10)])], [(0, ⟨.one, [.ptr 1000000 0]⟩), (1, ⟨.agg, [.int .i64 a0, .ro 1 (rowsI a1), .bool a2, .int .i64 a3, .str a4, .int .i64 a5, .int .i64 a6, .str a7, .int .i64 a8, .ro 11 (rows a9), .ro 6 (rows a10)]⟩)]⟩) (fun p => p.1.d.size ≤ 1000) ?_ ?_ | refine CutK_ans (β := Cu b.length) 4 (fun p => ⟨[(6, ⟨.one, [.ptr 6 0]⟩), (5, ⟨.one, [.ptr 5 0]⟩), (4, ⟨.one, [.ptr 4 0]⟩), (3, ⟨.one, [.ptr 3 0]⟩), (0, ⟨.one, [.ptr 1000000 0]⟩)], [(1000000, [.rov u 1 (rowsB b), .int .i64 p.2.i, .int .i64 p.2.h]), (6, [.int .i64 (a10.getD 0 default).Group, .int .i64 (a10.getD 0 default).Op.k, .str (a10.getD 0 default).Op.key, .int .i64 (a10.getD 0 default).Op.f, .int .i64 (a10.getD 0 default).Op.t, .str (a10.getD 0 default).Op.d]), (5, [.int .i64 p.1.c, .int .i64 p.1.i, .int .i64 p.1.m, .str p.1.d]), (4, [ij 0, ij 0, ij 0, ij 0, ij 0, ij 0, ij 0, bj false, oj 2, sj]), (3, [.int .i64 a0, .ro 1 (rowsI a1), .bool a2, .int .i64 a3, .str a4, .int .i64 a5, .int .i64 a6, .str a7, .int .i64 a8, .ro 11 (rows a9), .ro 6 (rows a10)])], [(0, ⟨.one, [.ptr 1000000 0]⟩), (1, ⟨.agg, [.int .i64 a0, .ro 1 (rowsI a1), .bool a2, .int .i64 a3, .str a4, .int .i64 a5, .int .i64 a6, .str a7, .int .i64 a8, .ro 11 (rows a9), .ro 6 (rows a10)]⟩)]⟩) (fun p => p.1.d.size ≤ 1010) ?_ ?_ | simp (maxSteps := 1000000) (disch := omega) only [go_sem])
  all_goals (try (exfalso; omega))
  all_goals first | (apply CutQ_p (x := (⟨_, _, _, _⟩ : AnsV)); rfl; (first | (dsimp only; omega) | exact Nat.le_trans (blockS_le _) (by decide) | exact Nat.zero_le _)) | (apply FinR_p (x := (⟨_, _, _, _, _, _, _, _, [], _⟩ : MsgV)); (first | with_reducible rfl | rfl); rfl; rfl; (refine ⟨⟨?_, ?_⟩, ⟨?_, ?_⟩, ?_, ?_, ?_⟩ <;> first | (dsimp only; omega) | exact (fun q hq => absurd hq (List.not_mem_nil)) | exact Nat.zero_le _ | exact (by assumption : _ ∧ _).2 | exact msgE (by assumption) | exact (fun q hq => by rcases List.mem_append.1 hq with hq | hq; exact msgE (by assumption) q hq; simp at hq; subst hq; dsimp only; first | omega | exact Nat.zero_le _) | (dsimp only; simp only [List.length_append, List.length_cons, List.length_nil, ByteArray.size_append]; omega) | (dsimp only; rw [ByteArray.size_append, show (⟨#[120]⟩ : ByteArray).size = 1 from rfl]; omega) | exact Nat.le_trans (opS_le _) (by dsimp only; omega) | exact Nat.le_trans (ansS_le _) (by dsimp only; omega))) | (apply FinR_p (x := (⟨_, _, _, _, _, _, _, _, _, _⟩ : MsgV)); (first | with_reducible rfl | rfl); rfl; rfl; (refine ⟨⟨?_, ?_⟩, ⟨?_, ?_⟩, ?_, ?_, ?_⟩ <;> first | (dsimp only; omega) | exact (fun q hq => absurd hq (List.not_mem_nil)) | exact Nat.zero_le _ | exact (by assumption : _ ∧ _).2 | exact msgE (by assumption) | exact (fun q hq => by rcases List.mem_append.1 hq with hq | hq; exact msgE (by assumption) q hq; simp at hq; subst hq; dsimp only; first | omega | exact Nat.zero_le _) | (dsimp only; simp only [List.length_append, List.length_cons, List.length_nil, ByteArray.size_append]; omega) | (dsimp only; rw [ByteArray.size_append, show (⟨#[120]⟩ : ByteArray).size = 1 from rfl]; omega) | exact Nat.le_trans (opS_le _) (by dsimp only; omega) | exact Nat.le_trans (ansS_le _) (by dsimp only; omega))) | skip
  rename_i x cx ix mk cm im cd ls
  refine LoopK_of (α := Nat × ByteArray × Cu b.length) (fun p => ⟨[(8, i64 p.1), (7, ⟨.one, [.own 1 (rowsI ls)]⟩), (6, ⟨.one, [.ptr 6 0]⟩), (5, ⟨.one, [.ptr 5 0]⟩), (4, ⟨.one, [.ptr 4 0]⟩), (3, ⟨.one, [.ptr 3 0]⟩), (0, ⟨.one, [.ptr 1000000 0]⟩)], [(1000000, [.rov u 1 (rowsB b), .int .i64 p.2.2.i, .int .i64 p.2.2.h]), (6, [.int .i64 (a10.getD 0 default).Group, .int .i64 (a10.getD 0 default).Op.k, .str (a10.getD 0 default).Op.key, .int .i64 (a10.getD 0 default).Op.f, .int .i64 (a10.getD 0 default).Op.t, .str (a10.getD 0 default).Op.d]), (5, [.int .i64 0, .int .i64 (1 + x), .int .i64 mk, .str p.2.1]), (4, [ij 0, ij 0, ij 0, ij 0, ij 0, ij 0, ij 0, bj false, oj 2, sj]), (3, [.int .i64 a0, .ro 1 (rowsI a1), .bool a2, .int .i64 a3, .str a4, .int .i64 a5, .int .i64 a6, .str a7, .int .i64 a8, .ro 11 (rows a9), .ro 6 (rows a10)])], [(0, ⟨.one, [.ptr 1000000 0]⟩), (1, ⟨.agg, [.int .i64 a0, .ro 1 (rowsI a1), .bool a2, .int .i64 a3, .str a4, .int .i64 a5, .int .i64 a6, .str a7, .int .i64 a8, .ro 11 (rows a9), .ro 6 (rows a10)]⟩)]⟩) (fun p => p.1 ≤ ls.length ∧ p.2.1.size ≤ 14 * p.1) (fun p => ls.length - p.1) (0, ⟨#[]⟩, cm) rfl ⟨Nat.zero_le _, Nat.zero_le _⟩ ?_
  rintro ⟨i, dd, c2⟩ ⟨h1, h2⟩
  simp only at h1 h2
  have hz := varS_le (ls.getD i 0)
  repeat' (first | (with_reducible intro h; (try simp only [h]); (try simp only [HS] at h)) | ((with_reducible apply scEnd_of); exact rfl; exact rfl) | ((with_reducible apply ScW_of); rfl; rfl; trivial) | with_reducible first | apply Br_of | refine O1 ?_ | refine O2 ?_ | refine O3 ?_ | refine O4 ?_ | refine O5 ?_ | refine CI ?_ | refine CJ ?_ | refine CQp ?_ | refine CQ ?_ | simp (maxSteps := 1000000) (disch := omega) only [go_sem])
  all_goals (try (exfalso; omega))
  all_goals first | (apply LoopQ_3; rfl; exact ⟨by dsimp only; omega, by dsimp only; first | omega | exact Nat.le_trans (var2_le _ _ _) (by omega)⟩; (dsimp only; omega)) | (apply CutQ_p (x := (⟨_, _, _, _⟩ : AnsV)); rfl; (first | (dsimp only; omega) | exact Nat.le_trans (blockS_le _) (by decide) | exact Nat.zero_le _))
def tdP (x : TodoV) : Prop := (0 ≤ x.Group ∧ x.Group ≤ 2) ∧ x.Op.key.size ≤ 100 ∧ x.Op.d.size ≤ 2000
def jQ (r : RouterV) : Prop := (1 ≤ r.Id ∧ r.Id ≤ 4) ∧ r.Serials.length = 3 ∧ serB r.Serials = true ∧ (∀ e ∈ r.Legs, e.fit) ∧ (∀ e ∈ r.Todo, tdP e) ∧ (r.Call.Key.size ≤ 100 ∧ r.Call.Data.size ≤ 2000) ∧
  (r.Busy = false → r.Call = CallV.zero ∧ r.Begun = 0 ∧ r.Legs = [] ∧ r.Todo = []) ∧ (r.Busy = true → callB r.Call.Kind r.Call.Key r.Call.From r.Call.To r.Call.Data = true ∧ r.Todo ≠ [])
theorem jQ_rt {r : RouterV} (h : jQ r) (hb : r.Busy = false) : rtP r.Id r.Serials r.Busy r.Call r.Begun r.Legs r.Todo := by
  obtain ⟨h1, h2, h3, _, _, _, h7, _⟩ := h
  obtain ⟨e1, e2, e3, e4⟩ := h7 hb
  exact ⟨h1, h2, by rw [e2]; decide, h3, .inl ⟨hb, e1, e2, e3, e4⟩⟩
theorem jQ_call {r : RouterV} {c : CallV} {t : Int} (h : jQ r) (hb : r.Busy = false) (hc : c.Key.size ≤ 100 ∧ c.Data.size ≤ 2000) :
    jQ (callM r.Id r.Serials r.Busy r.Call r.Begun r.Legs r.Todo c t).1 ∧ (callM r.Id r.Serials r.Busy r.Call r.Begun r.Legs r.Todo c t).1.Legs.length ≤ r.Legs.length ∧ (callM r.Id r.Serials r.Busy r.Call r.Begun r.Legs r.Todo c t).1.Todo.length ≤ r.Todo.length + 1 := by
  have hr := jQ_rt h hb
  refine ⟨?_, callM_len.2.1, callM_len.2.2⟩
  by_cases h2 : r.Busy = true ∨ callB c.Kind c.Key c.From c.To c.Data = false ∨ full r.Serials = true ∨ ¬(0 ≤ t ∧ t ≤ 1000000)
  · rw [callM_same hr h2]; exact h
  · have h3 : callB c.Kind c.Key c.From c.To c.Data = true := by
      cases hq : callB c.Kind c.Key c.From c.To c.Data with
      | true => rfl
      | false => exact absurd (.inr (.inl hq)) h2
    have h4 : full r.Serials = false := by
      cases hq : full r.Serials with
      | false => rfl
      | true => exact absurd (.inr (.inr (.inl hq))) h2
    have h5 : 0 ≤ t ∧ t ≤ 1000000 := Classical.not_not.1 fun h => h2 (.inr (.inr (.inr h)))
    rw [callM_yes hr hb h3 h4 h5]
    have hl : r.Legs = [] := (h.2.2.2.2.2.2.1 hb).2.2.1
    have hn := rtP_called (c2 := c) hr hl h3 h4 h5
    obtain ⟨g1, g2, g3, g4, g5⟩ := hn
    have ho := (ask_ok h3).1
    have hk := okB_rng ho
    refine ⟨g1, g2, g4, by rw [hl]; intro e he; simp at he, fun e he => ?_, hc, fun hb => by simp at hb, fun _ => ⟨h3, by simp⟩⟩
    simp only [List.mem_singleton] at he; subst he
    refine ⟨⟨Int.le_refl 0, by dsimp only; omega⟩, by dsimp only; omega, ?_⟩
    have hd : (askC c).d = ⟨#[]⟩ := by unfold askC askM; (repeat' split) <;> rfl
    rw [hd]; exact Nat.zero_le _
end Go.Eng
