/-
  Contracts of functions of the program, its reference and the laws: what each returns; the conditions stand in each contract.
-/
import Derived.Test.YtlpapgmbknkmaaaFnA
set_option linter.unusedSimpArgs false
set_option linter.unusedVariables false
set_option maxRecDepth 100000
set_option maxHeartbeats 2000000
namespace Go.Eng
open Go Go.Proofs
attribute [push_cast] rowsI_length
instance g113 (c i m : Int) (d : ByteArray) : Fs 113 [⟨.agg, [.int .i64 c, .int .i64 i, .int .i64 m, .str d]⟩] True (bl (ansB c i m d)) := by
  refine F_of m113 rfl fun hyp => ?_
  simp (maxSteps := 1000000) (disch := omega) only [go_sem]
  repeat' (first | (with_reducible intro h; (try simp only [h]); (try simp only [HS] at h)) | ((with_reducible apply scEnd_of); exact rfl; exact rfl) | ((with_reducible apply ScW_of); rfl; rfl; trivial) | with_reducible first | apply Br_of | refine O1 ?_ | refine O2 ?_ | refine O3 ?_ | refine O4 ?_ | refine O5 ?_ | refine CI ?_ | simp (maxSteps := 1000000) (disch := omega) only [go_sem])
  all_goals (simp only [ansB, Bool.and_assoc])
instance g105 (c i m : Int) (d : ByteArray) : Fs 105 [⟨.agg, [.int .i64 c, .int .i64 i, .int .i64 m, .str d]⟩] True (bl (ansB c i m d)) := by
  refine F_of m105 rfl fun hyp => ?_
  simp (maxSteps := 1000000) (disch := omega) only [go_sem]
  repeat' (first | (with_reducible intro h; (try simp only [h]); (try simp only [HS] at h)) | ((with_reducible apply scEnd_of); exact rfl; exact rfl) | ((with_reducible apply ScW_of); rfl; rfl; trivial) | with_reducible first | apply Br_of | refine O1 ?_ | refine O2 ?_ | refine O3 ?_ | refine O4 ?_ | refine O5 ?_ | refine CI ?_ | simp (maxSteps := 1000000) (disch := omega) only [go_sem])
  all_goals (simp only [ansB, Bool.and_assoc])
abbrev EV := Int × ByteArray
def eZ : EV := (0, ⟨#[]⟩)
def rowsE (l : List EV) : List (List D) := l.map fun p => [.int .i64 p.1, .str p.2]
@[go_sem] theorem rowsE_length (l : List EV) : (rowsE l).length = l.length := by simp [rowsE]
@[simp] theorem rowsE_inj {a b : List EV} : rowsE a = rowsE b ↔ a = b := ⟨fun h => map_inj (by rintro ⟨a, b⟩ ⟨c, d⟩ h; simpa using h) h, fun h => by rw [h]⟩
theorem rowsE_snoc (l : List EV) (a : Int) (b : ByteArray) : rowsE l ++ [[.int .i64 a, .str b]] = rowsE (l ++ [(a, b)]) := by simp [rowsE]
theorem rowsE_at {l : List EV} {i : Nat} (h : i < l.length) : ((rowsE l).drop i).flatten = .int .i64 (l.getD i eZ).1 :: .str (l.getD i eZ).2 :: rowsT (rowsE l) i := by
  have h' : i < (rowsE l).length := by rw [rowsE_length]; exact h
  rw [List.drop_eq_getElem_cons h', List.flatten_cons]
  simp [rowsE, rowsT, List.getD, h]
attribute [go_sem] rowsE_snoc rowsE_at
@[go_sem] theorem rowsE_get {l : List EV} {i : Nat} (h : i < l.length) : (rowsE l)[i]? = some [.int .i64 (l.getD i eZ).1, .str (l.getD i eZ).2] := by
  simp [rowsE, List.getD, h]
theorem drop_getD {α : Type} {l : List α} {i : Nat} (z : α) (h : i < l.length) : l.drop i = l.getD i z :: l.drop (i + 1) := by
  rw [List.drop_eq_getElem_cons h]; simp [List.getD, h]
theorem getD_mem {α : Type} {l : List α} {i : Nat} (z : α) (h : i < l.length) : l.getD i z ∈ l := by
  simp only [List.getD, List.getElem?_eq_getElem h, Option.getD_some]; exact List.getElem_mem h
def szB (b : ByteArray) (n : Int) : Int := if n - b.size < 0 then -1 else n - b.size
def szEL : List EV → Int → Int
  | [], n => n
  | e :: t, n => if n - e.2.size < 0 then -1 else szEL t (n - e.2.size)
def szES (l : List EV) (n : Int) : Int := if n - l.length < 0 then -1 else szEL l (n - l.length)
theorem szEL_rng : ∀ (l : List EV) (n : Int), 0 ≤ n → szEL l n ≤ n ∧ (0 ≤ szEL l n → ∀ e ∈ l, (e.2.size : Int) ≤ n)
  | [], n, h => by simp [szEL]
  | e :: t, n, h => by
    simp only [szEL]
    split
    · exact ⟨by omega, fun hh => by omega⟩
    · have ih := szEL_rng t (n - e.2.size) (by omega)
      refine ⟨by omega, fun hh x hx => ?_⟩
      rcases List.mem_cons.1 hx with rfl | hx
      · omega
      · have := ih.2 hh x hx; omega
theorem szES_rng {l : List EV} {n : Int} (h : 0 ≤ n) : szES l n ≤ n ∧ (0 ≤ szES l n → (l.length : Int) ≤ n ∧ ∀ e ∈ l, (e.2.size : Int) ≤ n) := by
  unfold szES
  split
  · exact ⟨by omega, fun hh => by omega⟩
  · have ih := szEL_rng l (n - l.length) (by omega)
    refine ⟨by omega, fun hh => ⟨by omega, fun e he => ?_⟩⟩
    have := ih.2 hh e he
    omega
def runB (low high : Int) : List EV → Bool
  | [] => true
  | e :: t => decide (1 ≤ e.1) && (decide (low ≤ e.1) && decide (e.1 ≤ high)) && decide ((e.2.size : Int) ≤ 900) && runB e.1 high t
theorem runB_low (low high : Int) : ∀ l, runB low high l = runB (if low < 1 then 1 else low) high l
  | [] => rfl
  | e :: t => by
    simp only [runB]
    congr 2
    rw [Bool.eq_iff_iff]
    simp only [Bool.and_eq_true, decide_eq_true_eq]
    split <;> omega
def eqE (l m : List EV) : Bool := decide (l = m)
attribute [push_cast] rowsE_length
attribute [go_sem] elemSt modP
theorem modify_row {α : Type} {l : List α} {i : Nat} {f : α → α} {r : α} (h : l[i]? = some r) : l.modify i f = l.set i (f r) := by
  apply List.ext_getElem?
  intro j
  rw [List.getElem?_modify, List.getElem?_set]
  obtain ⟨hi, rfl⟩ := List.getElem?_eq_some_iff.1 h
  by_cases hj : i = j
  · subst hj; simp [hi]
  · simp [hj]
theorem setCells_row {sz i : Nat} : ∀ (ds : List D) (rows : List (List D)) (j : Nat) (r : List D), rows[i]? = some r → r.length = sz → j + ds.length ≤ sz → setCells sz rows (i * sz + j) ds = rows.set i (r.take j ++ ds ++ r.drop (j + ds.length))
  | [], rows, j, r, hr, hl, hj => by
    obtain ⟨hi, rfl⟩ := List.getElem?_eq_some_iff.1 hr
    simp [setCells]
  | d :: ds, rows, j, r, hr, hl, hj => by
    have hi : i < rows.length := (List.getElem?_eq_some_iff.1 hr).1
    simp only [List.length_cons] at hj
    have hd : (i * sz + j) / sz = i := by rw [Nat.mul_comm, Nat.mul_add_div (by omega), Nat.div_eq_of_lt (by omega), Nat.add_zero]
    have hm : (i * sz + j) % sz = j := by rw [Nat.mul_comm, Nat.mul_add_mod, Nat.mod_eq_of_lt (by omega)]
    have hs : setCellAt sz rows (i * sz + j) d = rows.set i (r.set j d) := by
      unfold setCellAt
      rw [hd, hm]
      exact modify_row hr
    have hr2 : (rows.set i (r.set j d))[i]? = some (r.set j d) := by rw [List.getElem?_set_self hi]
    have ih := setCells_row ds (rows.set i (r.set j d)) (j + 1) (r.set j d) hr2 (by rw [List.length_set, hl]) (by omega)
    rw [setCells, hs, show i * sz + j + 1 = i * sz + (j + 1) by omega, ih, List.set_set]
    congr 1
    rw [List.length_cons, show j + 1 + ds.length = j + (ds.length + 1) by omega, List.drop_set_of_lt (by omega)]
    congr 1
    rw [List.take_succ_eq_append_getElem (by rw [List.length_set]; omega), List.take_set_of_le (by omega)]
    simp
theorem setCells_full {sz i : Nat} {ds : List D} {rows : List (List D)} {r : List D} (hr : rows[i]? = some r) (hl : r.length = sz) (hd : ds.length = sz) : setCells sz rows (i * sz) ds = rows.set i ds := by
  have := setCells_row ds rows 0 r hr hl (by omega)
  rw [Nat.add_zero] at this
  rw [this, List.drop_of_length_le (by omega)]; simp
theorem rowsE_put {l : List EV} {i : Nat} {a : Int} {b : ByteArray} (h : i < l.length) : setCells 2 (rowsE l) (i * 2) [.int .i64 a, .str b] = rowsE (l.set i (a, b)) := by
  rw [setCells_full (sz := 2) (rowsE_get h) rfl (show ([.int .i64 a, .str b] : List D).length = 2 from rfl)]
  simp [rowsE, List.map_set]
theorem fill_step {α : Type} {l : List α} {i : Nat} (z : α) (h : i < l.length) : (l.take i ++ List.replicate (l.length - i) z).set i (l.getD i z) = l.take (i + 1) ++ List.replicate (l.length - (i + 1)) z := by
  have hl : (l.take i).length = i := by rw [List.length_take]; omega
  rw [List.set_append_right _ _ (by omega), hl, Nat.sub_self, show l.length - i = (l.length - (i + 1)) + 1 by omega, List.replicate_succ, List.set_cons_zero,
    List.take_succ_eq_append_getElem h, List.append_assoc]
  simp [List.getD, h]
theorem take_snocZ {α : Type} {l : List α} {i : Nat} (z : α) (h : i < l.length) : l.take (i + 1) = l.take i ++ [l.getD i z] := by
  rw [List.take_succ_eq_append_getElem h]; simp [List.getD, h]
theorem rowsE_set {l : List EV} {i n : Nat} (h : i < n) : rowsE (l.take i ++ List.replicate (n - i) eZ) = rowsE (l.take i) ++ List.replicate (n - i) [.int .i64 0, .str ⟨#[]⟩] := by
  simp [rowsE, eZ]
class Row (α : Type) extends Inhabited α where
  sz : Nat
  row : α → List D
  len : ∀ x, (row x).length = sz
def rows {α : Type} [Row α] (l : List α) : List (List D) := l.map Row.row
section
variable {α : Type} [Row α] {l : List α} {i : Nat}
@[go_sem, push_cast] theorem rows_length (l : List α) : (rows l).length = l.length := by simp [rows]
theorem rows_snoc (l : List α) (x : α) : rows l ++ [Row.row x] = rows (l ++ [x]) := by simp [rows]
@[go_sem] theorem rows_get (h : i < l.length) : (rows l)[i]? = some (Row.row (l.getD i default)) := by
  simp [rows, List.getD, h]
@[go_sem] theorem rows_at (h : i < l.length) : ((rows l).drop i).flatten = Row.row (l.getD i default) ++ rowsT (rows l) i := by
  have h' : i < (rows l).length := by rw [rows_length]; exact h
  rw [List.drop_eq_getElem_cons h', List.flatten_cons]
  simp [rows, rowsT, List.getD, h]
@[go_sem] theorem rows_at0 (h : 0 < l.length) : (rows l).flatten = Row.row (l.getD 0 default) ++ rowsT (rows l) 0 := by
  have := rows_at h
  rwa [List.drop_zero] at this
theorem rows_put {n : Nat} (hn : n = Row.sz α) (x : α) (h : i < l.length) : setCells n (rows l) (i * n) (Row.row x) = rows (l.set i x) := by
  subst hn
  rw [setCells_full (rows_get h) (Row.len _) (Row.len _)]
  simp [rows, List.map_set]
theorem rows_fill (n : Nat) (x : α) : List.replicate n (Row.row x) = rows (List.replicate n x) := by simp [rows]
theorem rows_part {n j : Nat} {ds : List D} {x : α} (hn : n = Row.sz α) (hx : Row.row x = (Row.row (l.getD i default)).take j ++ ds ++ (Row.row (l.getD i default)).drop (j + ds.length)) (hj : j + ds.length ≤ n) (h : i < l.length) :
    setCells n (rows l) (i * n + j) ds = rows (l.set i x) := by
  subst hn
  rw [setCells_row ds _ _ _ (rows_get h) (Row.len _) hj, ← hx]
  simp [rows, List.map_set]
@[go_sem] theorem numsOf_no : numsOf ([] : List (List D)) = some [] := rfl
end
theorem take_eq_snoc {α : Type} {l m : List α} {i : Nat} (z : α) (h1 : i < l.length) (h2 : i < m.length) (h : l.take i = m.take i) (hz : l.getD i z = m.getD i z) : l.take (i + 1) = m.take (i + 1) := by
  rw [take_snocZ z h1, take_snocZ z h2, h, hz]
theorem take_full {α : Type} {l m : List α} {i : Nat} (h1 : l.length ≤ i) (h2 : m.length ≤ i) (h : l.take i = m.take i) : l = m := by
  rwa [List.take_of_length_le h1, List.take_of_length_le h2] at h
theorem getD_of {α : Type} {P : α → Prop} {l : List α} (z : α) (h : ∀ x ∈ l, P x) {i : Nat} (hi : i < l.length) : P (l.getD i z) := h _ (getD_mem z hi)
def szI (t n : Int) : Int := if n < t then -1 else n - t
theorem szI_rng (t n : Int) (h : 0 ≤ t) (hn : -1 ≤ n) : -1 ≤ szI t n ∧ szI t n ≤ n := by unfold szI; split <;> omega
theorem szI_cases (t n : Int) : (n < t ∧ szI t n = -1) ∨ (t ≤ n ∧ szI t n = n - t) := by unfold szI; split <;> omega
theorem szI_lo {t n : Int} (h : n < t) : szI t n = -1 := if_pos h
theorem szI_hi {t n : Int} (h : t ≤ n) : szI t n = n - t := if_neg (by omega)
def mS {α : Type} (f : α → Int) : List α → Int
  | [] => 0
  | x :: t => f x + mS f t
def mL {α : Type} (f : α → Int) (l : List α) : Int := l.length + mS f l
theorem mS_nn {α : Type} {f : α → Int} (hf : ∀ x, 0 ≤ f x) : ∀ l, 0 ≤ mS f l
  | [] => Int.le_refl _
  | x :: t => by have := mS_nn hf t; have := hf x; simp only [mS]; omega
theorem mS_append {α : Type} {f : α → Int} : ∀ l m, mS f (l ++ m) = mS f l + mS f m
  | [], m => by simp [mS]
  | x :: t, m => by simp only [List.cons_append, mS, mS_append t m]; omega
theorem mS_take {α : Type} {f : α → Int} {l : List α} {i : Nat} (z : α) (h : i < l.length) : mS f (l.take (i + 1)) = mS f (l.take i) + f (l.getD i z) := by
  rw [take_snocZ z h, mS_append]; simp [mS]
theorem mS_take_le {α : Type} {f : α → Int} (hf : ∀ x, 0 ≤ f x) (l : List α) (i : Nat) : mS f (l.take i) ≤ mS f l := by
  have := mS_append (f := f) (l.take i) (l.drop i)
  rw [List.take_append_drop] at this
  have := mS_nn hf (l.drop i)
  omega
theorem mS_mem {α : Type} {f : α → Int} (hf : ∀ x, 0 ≤ f x) : ∀ {l : List α} {x : α}, x ∈ l → f x ≤ mS f l
  | y :: t, x, h => by
    have h1 := mS_nn hf t
    have h2 := hf y
    simp only [mS]
    rcases List.mem_cons.1 h with rfl | h
    · omega
    · have := mS_mem hf h; omega
theorem mL_nn {α : Type} {f : α → Int} (hf : ∀ x, 0 ≤ f x) (l : List α) : 0 ≤ mL f l := by have := mS_nn hf l; unfold mL; omega
theorem mL_mem {α : Type} {f : α → Int} (hf : ∀ x, 0 ≤ f x) {l : List α} {x : α} (h : x ∈ l) : f x ≤ mL f l := by have := mS_mem hf h; unfold mL; omega
theorem sz_stop {α : Type} {f : α → Int} (hf : ∀ x, 0 ≤ f x) {l : List α} {i : Nat} {n m : Int} (z : α) (h : i < l.length) (hm : m = n - l.length - mS f (l.take i)) (h2 : szI (f (l.getD i z)) m < 0) (h0 : 0 ≤ m) : szI (mL f l) n = -1 := by
  apply szI_lo
  have h1 := mS_take_le hf l (i + 1)
  rw [mS_take z h] at h1
  unfold szI at h2
  unfold mL
  split at h2 <;> omega
theorem sz_go {α : Type} {f : α → Int} {l : List α} {i : Nat} {n m : Int} (z : α) (h : i < l.length) (hm : m = n - l.length - mS f (l.take i)) (h2 : 0 ≤ szI (f (l.getD i z)) m) : szI (f (l.getD i z)) m = n - l.length - mS f (l.take (i + 1)) := by
  rw [mS_take z h]
  unfold szI at h2 ⊢
  split at h2 <;> split <;> omega
theorem sz_end {α : Type} {f : α → Int} {l : List α} {i : Nat} {n m : Int} (h : l.length ≤ i) (hm : m = n - l.length - mS f (l.take i)) (h0 : 0 ≤ m) : szI (mL f l) n = m := by
  rw [List.take_of_length_le h] at hm
  rw [szI_hi (by unfold mL; omega)]
  unfold mL; omega
instance : Row OpV := { default := ⟨0, ⟨#[]⟩, 0, 0, ⟨#[]⟩⟩, sz := 5, row := fun x => [.int .i64 x.k, .str x.key, .int .i64 x.f, .int .i64 x.t, .str x.d], len := fun _ => rfl }
@[go_sem] theorem OpV.row_eq (x : OpV) : Row.row x = [.int .i64 x.k, .str x.key, .int .i64 x.f, .int .i64 x.t, .str x.d] := rfl
@[go_sem] theorem OpV.put {l : List OpV} {i : Nat} {a0 : Int} {a1 : ByteArray} {a2 a3 : Int} {a4 : ByteArray} (h : i < l.length) : setCells 5 (rows l) (i * 5) [.int .i64 a0, .str a1, .int .i64 a2, .int .i64 a3, .str a4] = rows (l.set i (⟨a0, a1, a2, a3, a4⟩ : OpV)) := rows_put rfl (⟨a0, a1, a2, a3, a4⟩ : OpV) h
@[go_sem] theorem OpV.snoc {l : List OpV} {a0 : Int} {a1 : ByteArray} {a2 a3 : Int} {a4 : ByteArray} : rows l ++ [[.int .i64 a0, .str a1, .int .i64 a2, .int .i64 a3, .str a4]] = rows (l ++ [(⟨a0, a1, a2, a3, a4⟩ : OpV)]) := rows_snoc l (⟨a0, a1, a2, a3, a4⟩ : OpV)
@[go_sem] theorem OpV.eta (x : OpV) : (⟨x.k, x.key, x.f, x.t, x.d⟩ : OpV) = x := rfl
def OpV.mz (x : OpV) : Int := (x.key.size : Int) + (x.d.size : Int)
theorem OpV.mz_nn (x : OpV) : 0 ≤ x.mz := by unfold OpV.mz; omega
def OpV.fit (x : OpV) : Prop := x.key.size ≤ 9223372036854775807 ∧ x.d.size ≤ 9223372036854775807
instance : Row AnsV := { default := ⟨0, 0, 0, ⟨#[]⟩⟩, sz := 4, row := fun x => [.int .i64 x.c, .int .i64 x.i, .int .i64 x.m, .str x.d], len := fun _ => rfl }
@[go_sem] theorem AnsV.row_eq (x : AnsV) : Row.row x = [.int .i64 x.c, .int .i64 x.i, .int .i64 x.m, .str x.d] := rfl
@[go_sem] theorem AnsV.put {l : List AnsV} {i : Nat} {a0 a1 a2 : Int} {a3 : ByteArray} (h : i < l.length) : setCells 4 (rows l) (i * 4) [.int .i64 a0, .int .i64 a1, .int .i64 a2, .str a3] = rows (l.set i (⟨a0, a1, a2, a3⟩ : AnsV)) := rows_put rfl (⟨a0, a1, a2, a3⟩ : AnsV) h
@[go_sem] theorem AnsV.snoc {l : List AnsV} {a0 a1 a2 : Int} {a3 : ByteArray} : rows l ++ [[.int .i64 a0, .int .i64 a1, .int .i64 a2, .str a3]] = rows (l ++ [(⟨a0, a1, a2, a3⟩ : AnsV)]) := rows_snoc l (⟨a0, a1, a2, a3⟩ : AnsV)
@[go_sem] theorem AnsV.eta (x : AnsV) : (⟨x.c, x.i, x.m, x.d⟩ : AnsV) = x := rfl
def AnsV.mz (x : AnsV) : Int := (x.d.size : Int)
theorem AnsV.mz_nn (x : AnsV) : 0 ≤ x.mz := by unfold AnsV.mz; omega
def AnsV.fit (x : AnsV) : Prop := x.d.size ≤ 9223372036854775807
structure LegV where
  Group : Int
  Serial : Int
  Op : OpV
  Answer : AnsV
  deriving DecidableEq
instance : Row LegV := { default := ⟨0, 0, ⟨0, ⟨#[]⟩, 0, 0, ⟨#[]⟩⟩, ⟨0, 0, 0, ⟨#[]⟩⟩⟩, sz := 11, row := fun x => [.int .i64 x.Group, .int .i64 x.Serial, .int .i64 x.Op.k, .str x.Op.key, .int .i64 x.Op.f, .int .i64 x.Op.t, .str x.Op.d, .int .i64 x.Answer.c, .int .i64 x.Answer.i, .int .i64 x.Answer.m, .str x.Answer.d], len := fun _ => rfl }
@[go_sem] theorem LegV.row_eq (x : LegV) : Row.row x = [.int .i64 x.Group, .int .i64 x.Serial, .int .i64 x.Op.k, .str x.Op.key, .int .i64 x.Op.f, .int .i64 x.Op.t, .str x.Op.d, .int .i64 x.Answer.c, .int .i64 x.Answer.i, .int .i64 x.Answer.m, .str x.Answer.d] := rfl
@[go_sem] theorem LegV.put {l : List LegV} {i : Nat} {a0 a1 a2 : Int} {a3 : ByteArray} {a4 a5 : Int} {a6 : ByteArray} {a7 a8 a9 : Int} {a10 : ByteArray} (h : i < l.length) : setCells 11 (rows l) (i * 11) [.int .i64 a0, .int .i64 a1, .int .i64 a2, .str a3, .int .i64 a4, .int .i64 a5, .str a6, .int .i64 a7, .int .i64 a8, .int .i64 a9, .str a10] = rows (l.set i (⟨a0, a1, ⟨a2, a3, a4, a5, a6⟩, ⟨a7, a8, a9, a10⟩⟩ : LegV)) := rows_put rfl (⟨a0, a1, ⟨a2, a3, a4, a5, a6⟩, ⟨a7, a8, a9, a10⟩⟩ : LegV) h
@[go_sem] theorem LegV.snoc {l : List LegV} {a0 a1 a2 : Int} {a3 : ByteArray} {a4 a5 : Int} {a6 : ByteArray} {a7 a8 a9 : Int} {a10 : ByteArray} : rows l ++ [[.int .i64 a0, .int .i64 a1, .int .i64 a2, .str a3, .int .i64 a4, .int .i64 a5, .str a6, .int .i64 a7, .int .i64 a8, .int .i64 a9, .str a10]] = rows (l ++ [(⟨a0, a1, ⟨a2, a3, a4, a5, a6⟩, ⟨a7, a8, a9, a10⟩⟩ : LegV)]) := rows_snoc l (⟨a0, a1, ⟨a2, a3, a4, a5, a6⟩, ⟨a7, a8, a9, a10⟩⟩ : LegV)
@[go_sem] theorem LegV.eta (x : LegV) : (⟨x.Group, x.Serial, x.Op, x.Answer⟩ : LegV) = x := rfl
def LegV.mz (x : LegV) : Int := (x.Op.key.size : Int) + (x.Op.d.size : Int) + (x.Answer.d.size : Int)
theorem LegV.mz_nn (x : LegV) : 0 ≤ x.mz := by unfold LegV.mz; omega
def LegV.fit (x : LegV) : Prop := x.Op.key.size ≤ 9223372036854775807 ∧ x.Op.d.size ≤ 9223372036854775807 ∧ x.Answer.d.size ≤ 9223372036854775807
structure TodoV where
  Group : Int
  Op : OpV
  deriving DecidableEq
instance : Row TodoV := { default := ⟨0, ⟨0, ⟨#[]⟩, 0, 0, ⟨#[]⟩⟩⟩, sz := 6, row := fun x => [.int .i64 x.Group, .int .i64 x.Op.k, .str x.Op.key, .int .i64 x.Op.f, .int .i64 x.Op.t, .str x.Op.d], len := fun _ => rfl }
@[go_sem] theorem TodoV.row_eq (x : TodoV) : Row.row x = [.int .i64 x.Group, .int .i64 x.Op.k, .str x.Op.key, .int .i64 x.Op.f, .int .i64 x.Op.t, .str x.Op.d] := rfl
@[go_sem] theorem TodoV.put {l : List TodoV} {i : Nat} {a0 a1 : Int} {a2 : ByteArray} {a3 a4 : Int} {a5 : ByteArray} (h : i < l.length) : setCells 6 (rows l) (i * 6) [.int .i64 a0, .int .i64 a1, .str a2, .int .i64 a3, .int .i64 a4, .str a5] = rows (l.set i (⟨a0, ⟨a1, a2, a3, a4, a5⟩⟩ : TodoV)) := rows_put rfl (⟨a0, ⟨a1, a2, a3, a4, a5⟩⟩ : TodoV) h
@[go_sem] theorem TodoV.snoc {l : List TodoV} {a0 a1 : Int} {a2 : ByteArray} {a3 a4 : Int} {a5 : ByteArray} : rows l ++ [[.int .i64 a0, .int .i64 a1, .str a2, .int .i64 a3, .int .i64 a4, .str a5]] = rows (l ++ [(⟨a0, ⟨a1, a2, a3, a4, a5⟩⟩ : TodoV)]) := rows_snoc l (⟨a0, ⟨a1, a2, a3, a4, a5⟩⟩ : TodoV)
@[go_sem] theorem TodoV.eta (x : TodoV) : (⟨x.Group, x.Op⟩ : TodoV) = x := rfl
def TodoV.mz (x : TodoV) : Int := (x.Op.key.size : Int) + (x.Op.d.size : Int)
theorem TodoV.mz_nn (x : TodoV) : 0 ≤ x.mz := by unfold TodoV.mz; omega
def TodoV.fit (x : TodoV) : Prop := x.Op.key.size ≤ 9223372036854775807 ∧ x.Op.d.size ≤ 9223372036854775807
instance g130 (a0 : Int) (a1 : ByteArray) (a2 a3 : Int) (a4 : ByteArray) (n : Int) : Fs 130 [⟨.agg, [.int .i64 a0, .str a1, .int .i64 a2, .int .i64 a3, .str a4]⟩, i64 n] ((0 ≤ n ∧ n ≤ 1048576) ∧ a1.size ≤ 9223372036854775807 ∧ a4.size ≤ 9223372036854775807) (i64 (szI ((a1.size : Int) + (a4.size : Int)) n)) := by
  refine F_of m130 rfl fun hyp => ?_
  have s0 : 0 ≤ (a1.size : Int) := by omega
  have r0 := szI_cases ((a1.size : Int)) n
  have s1 : 0 ≤ (a4.size : Int) := by omega
  have r1 := szI_cases ((a4.size : Int)) (szI ((a1.size : Int)) n)
  have rt := szI_cases ((a1.size : Int) + (a4.size : Int)) n
  repeat' (first | (with_reducible intro h; (try simp only [h]); (try simp only [HS] at h)) | ((with_reducible apply scEnd_of); exact rfl; exact rfl) | ((with_reducible apply ScW_of); rfl; rfl; trivial) | with_reducible first | apply Br_of | refine O1 ?_ | refine O2 ?_ | refine O3 ?_ | refine O4 ?_ | refine O5 ?_ | refine CI ?_ | simp (maxSteps := 1000000) (disch := omega) only [go_sem])
  all_goals (try (exfalso; omega))
  all_goals (simp only [Prod.mk.injEq, SV.mk.injEq, List.cons.injEq, Cell.int.injEq, and_true, true_and]; omega)
instance g132 (a0 : Int) (a1 : ByteArray) (a2 a3 : Int) (a4 : ByteArray) : Fs 132 [⟨.agg, [.int .i64 a0, .str a1, .int .i64 a2, .int .i64 a3, .str a4]⟩] True (⟨.agg, [.int .i64 a0, .str a1, .int .i64 a2, .int .i64 a3, .str a4]⟩) := by
  refine F_of m132 rfl fun hyp => ?_
  repeat' (first | (with_reducible intro h; (try simp only [h]); (try simp only [HS] at h)) | ((with_reducible apply scEnd_of); exact rfl; exact rfl) | ((with_reducible apply ScW_of); rfl; rfl; trivial) | with_reducible first | apply Br_of | refine O1 ?_ | refine O2 ?_ | refine O3 ?_ | refine O4 ?_ | refine O5 ?_ | refine CI ?_ | simp (maxSteps := 1000000) (disch := omega) only [go_sem])
instance g136 (a0 : Int) (a1 : ByteArray) (a2 a3 : Int) (a4 : ByteArray) (b0 : Int) (b1 : ByteArray) (b2 b3 : Int) (b4 : ByteArray) : Fs 136 [⟨.agg, [.int .i64 a0, .str a1, .int .i64 a2, .int .i64 a3, .str a4]⟩, ⟨.agg, [.int .i64 b0, .str b1, .int .i64 b2, .int .i64 b3, .str b4]⟩] True (bl (decide ((⟨a0, a1, a2, a3, a4⟩ : OpV) = (⟨b0, b1, b2, b3, b4⟩ : OpV)))) := by
  refine F_of m136 rfl fun hyp => ?_
  repeat' (first | (with_reducible intro h; (try simp only [h]); (try simp only [HS] at h)) | ((with_reducible apply scEnd_of); exact rfl; exact rfl) | ((with_reducible apply ScW_of); rfl; rfl; trivial) | with_reducible first | apply Br_of | refine O1 ?_ | refine O2 ?_ | refine O3 ?_ | refine O4 ?_ | refine O5 ?_ | refine CI ?_ | simp (maxSteps := 1000000) (disch := omega) only [go_sem])
  all_goals first | (rw [decide_eq_false]; intro e; cases e; first | exact h rfl | (simp at h; done)) | (rw [decide_eq_true]; congr 1 <;> first | assumption | (simp only [bne_eq_false_iff_eq] at *; assumption))
instance g131 (a0 a1 a2 : Int) (a3 : ByteArray) (n : Int) : Fs 131 [⟨.agg, [.int .i64 a0, .int .i64 a1, .int .i64 a2, .str a3]⟩, i64 n] ((0 ≤ n ∧ n ≤ 1048576) ∧ a3.size ≤ 9223372036854775807) (i64 (szI ((a3.size : Int)) n)) := by
  refine F_of m131 rfl fun hyp => ?_
  have s0 : 0 ≤ (a3.size : Int) := by omega
  have r0 := szI_cases ((a3.size : Int)) n
  have rt := szI_cases ((a3.size : Int)) n
  repeat' (first | (with_reducible intro h; (try simp only [h]); (try simp only [HS] at h)) | ((with_reducible apply scEnd_of); exact rfl; exact rfl) | ((with_reducible apply ScW_of); rfl; rfl; trivial) | with_reducible first | apply Br_of | refine O1 ?_ | refine O2 ?_ | refine O3 ?_ | refine O4 ?_ | refine O5 ?_ | refine CI ?_ | simp (maxSteps := 1000000) (disch := omega) only [go_sem])
  all_goals (try (exfalso; omega))
  all_goals (simp only [Prod.mk.injEq, SV.mk.injEq, List.cons.injEq, Cell.int.injEq, and_true, true_and]; omega)
instance g133 (a0 a1 a2 : Int) (a3 : ByteArray) : Fs 133 [⟨.agg, [.int .i64 a0, .int .i64 a1, .int .i64 a2, .str a3]⟩] True (⟨.agg, [.int .i64 a0, .int .i64 a1, .int .i64 a2, .str a3]⟩) := by
  refine F_of m133 rfl fun hyp => ?_
  repeat' (first | (with_reducible intro h; (try simp only [h]); (try simp only [HS] at h)) | ((with_reducible apply scEnd_of); exact rfl; exact rfl) | ((with_reducible apply ScW_of); rfl; rfl; trivial) | with_reducible first | apply Br_of | refine O1 ?_ | refine O2 ?_ | refine O3 ?_ | refine O4 ?_ | refine O5 ?_ | refine CI ?_ | simp (maxSteps := 1000000) (disch := omega) only [go_sem])
instance g137 (a0 a1 a2 : Int) (a3 : ByteArray) (b0 b1 b2 : Int) (b3 : ByteArray) : Fs 137 [⟨.agg, [.int .i64 a0, .int .i64 a1, .int .i64 a2, .str a3]⟩, ⟨.agg, [.int .i64 b0, .int .i64 b1, .int .i64 b2, .str b3]⟩] True (bl (decide ((⟨a0, a1, a2, a3⟩ : AnsV) = (⟨b0, b1, b2, b3⟩ : AnsV)))) := by
  refine F_of m137 rfl fun hyp => ?_
  repeat' (first | (with_reducible intro h; (try simp only [h]); (try simp only [HS] at h)) | ((with_reducible apply scEnd_of); exact rfl; exact rfl) | ((with_reducible apply ScW_of); rfl; rfl; trivial) | with_reducible first | apply Br_of | refine O1 ?_ | refine O2 ?_ | refine O3 ?_ | refine O4 ?_ | refine O5 ?_ | refine CI ?_ | simp (maxSteps := 1000000) (disch := omega) only [go_sem])
  all_goals first | (rw [decide_eq_false]; intro e; cases e; first | exact h rfl | (simp at h; done)) | (rw [decide_eq_true]; congr 1 <;> first | assumption | (simp only [bne_eq_false_iff_eq] at *; assumption))
instance g103 (a0 a1 a2 : Int) (a3 : ByteArray) (a4 a5 : Int) (a6 : ByteArray) (a7 a8 a9 : Int) (a10 : ByteArray) (n : Int) : Fs 103 [⟨.agg, [.int .i64 a0, .int .i64 a1, .int .i64 a2, .str a3, .int .i64 a4, .int .i64 a5, .str a6, .int .i64 a7, .int .i64 a8, .int .i64 a9, .str a10]⟩, i64 n] ((0 ≤ n ∧ n ≤ 1048576) ∧ a3.size ≤ 9223372036854775807 ∧ a6.size ≤ 9223372036854775807 ∧ a10.size ≤ 9223372036854775807) (i64 (szI ((a3.size : Int) + (a6.size : Int) + (a10.size : Int)) n)) := by
  refine F_of m103 rfl fun hyp => ?_
  have s0 : 0 ≤ (a3.size : Int) + (a6.size : Int) := by omega
  have r0 := szI_cases ((a3.size : Int) + (a6.size : Int)) n
  have s1 : 0 ≤ (a10.size : Int) := by omega
  have r1 := szI_cases ((a10.size : Int)) (szI ((a3.size : Int) + (a6.size : Int)) n)
  have rt := szI_cases ((a3.size : Int) + (a6.size : Int) + (a10.size : Int)) n
  repeat' (first | (with_reducible intro h; (try simp only [h]); (try simp only [HS] at h)) | ((with_reducible apply scEnd_of); exact rfl; exact rfl) | ((with_reducible apply ScW_of); rfl; rfl; trivial) | with_reducible first | apply Br_of | refine O1 ?_ | refine O2 ?_ | refine O3 ?_ | refine O4 ?_ | refine O5 ?_ | refine CI ?_ | simp (maxSteps := 1000000) (disch := omega) only [go_sem])
  all_goals (try (exfalso; omega))
  all_goals (simp only [Prod.mk.injEq, SV.mk.injEq, List.cons.injEq, Cell.int.injEq, and_true, true_and]; omega)
instance g106 (a0 a1 a2 : Int) (a3 : ByteArray) (a4 a5 : Int) (a6 : ByteArray) (a7 a8 a9 : Int) (a10 : ByteArray) : Fs 106 [⟨.agg, [.int .i64 a0, .int .i64 a1, .int .i64 a2, .str a3, .int .i64 a4, .int .i64 a5, .str a6, .int .i64 a7, .int .i64 a8, .int .i64 a9, .str a10]⟩] True (⟨.agg, [.int .i64 a0, .int .i64 a1, .int .i64 a2, .str a3, .int .i64 a4, .int .i64 a5, .str a6, .int .i64 a7, .int .i64 a8, .int .i64 a9, .str a10]⟩) := by
  refine F_of m106 rfl fun hyp => ?_
  repeat' (first | (with_reducible intro h; (try simp only [h]); (try simp only [HS] at h)) | ((with_reducible apply scEnd_of); exact rfl; exact rfl) | ((with_reducible apply ScW_of); rfl; rfl; trivial) | with_reducible first | apply Br_of | refine O1 ?_ | refine O2 ?_ | refine O3 ?_ | refine O4 ?_ | refine O5 ?_ | refine CI ?_ | simp (maxSteps := 1000000) (disch := omega) only [go_sem])
instance g114 (a0 a1 a2 : Int) (a3 : ByteArray) (a4 a5 : Int) (a6 : ByteArray) (a7 a8 a9 : Int) (a10 : ByteArray) (b0 b1 b2 : Int) (b3 : ByteArray) (b4 b5 : Int) (b6 : ByteArray) (b7 b8 b9 : Int) (b10 : ByteArray) : Fs 114 [⟨.agg, [.int .i64 a0, .int .i64 a1, .int .i64 a2, .str a3, .int .i64 a4, .int .i64 a5, .str a6, .int .i64 a7, .int .i64 a8, .int .i64 a9, .str a10]⟩, ⟨.agg, [.int .i64 b0, .int .i64 b1, .int .i64 b2, .str b3, .int .i64 b4, .int .i64 b5, .str b6, .int .i64 b7, .int .i64 b8, .int .i64 b9, .str b10]⟩] True (bl (decide ((⟨a0, a1, ⟨a2, a3, a4, a5, a6⟩, ⟨a7, a8, a9, a10⟩⟩ : LegV) = (⟨b0, b1, ⟨b2, b3, b4, b5, b6⟩, ⟨b7, b8, b9, b10⟩⟩ : LegV)))) := by
  refine F_of m114 rfl fun hyp => ?_
  repeat' (first | (with_reducible intro h; (try simp only [h]); (try simp only [HS] at h)) | ((with_reducible apply scEnd_of); exact rfl; exact rfl) | ((with_reducible apply ScW_of); rfl; rfl; trivial) | with_reducible first | apply Br_of | refine O1 ?_ | refine O2 ?_ | refine O3 ?_ | refine O4 ?_ | refine O5 ?_ | refine CI ?_ | simp (maxSteps := 1000000) (disch := omega) only [go_sem])
  all_goals first | (rw [decide_eq_false]; intro e; cases e; first | exact h rfl | (simp at h; done)) | (rw [decide_eq_true]; congr 1 <;> first | assumption | (simp only [bne_eq_false_iff_eq] at *; assumption))
instance g104 (a0 a1 : Int) (a2 : ByteArray) (a3 a4 : Int) (a5 : ByteArray) (n : Int) : Fs 104 [⟨.agg, [.int .i64 a0, .int .i64 a1, .str a2, .int .i64 a3, .int .i64 a4, .str a5]⟩, i64 n] ((0 ≤ n ∧ n ≤ 1048576) ∧ a2.size ≤ 9223372036854775807 ∧ a5.size ≤ 9223372036854775807) (i64 (szI ((a2.size : Int) + (a5.size : Int)) n)) := by
  refine F_of m104 rfl fun hyp => ?_
  have s0 : 0 ≤ (a2.size : Int) + (a5.size : Int) := by omega
  have r0 := szI_cases ((a2.size : Int) + (a5.size : Int)) n
  have rt := szI_cases ((a2.size : Int) + (a5.size : Int)) n
  repeat' (first | (with_reducible intro h; (try simp only [h]); (try simp only [HS] at h)) | ((with_reducible apply scEnd_of); exact rfl; exact rfl) | ((with_reducible apply ScW_of); rfl; rfl; trivial) | with_reducible first | apply Br_of | refine O1 ?_ | refine O2 ?_ | refine O3 ?_ | refine O4 ?_ | refine O5 ?_ | refine CI ?_ | simp (maxSteps := 1000000) (disch := omega) only [go_sem])
  all_goals (try (exfalso; omega))
  all_goals (simp only [Prod.mk.injEq, SV.mk.injEq, List.cons.injEq, Cell.int.injEq, and_true, true_and]; omega)
instance g107 (a0 a1 : Int) (a2 : ByteArray) (a3 a4 : Int) (a5 : ByteArray) : Fs 107 [⟨.agg, [.int .i64 a0, .int .i64 a1, .str a2, .int .i64 a3, .int .i64 a4, .str a5]⟩] True (⟨.agg, [.int .i64 a0, .int .i64 a1, .str a2, .int .i64 a3, .int .i64 a4, .str a5]⟩) := by
  refine F_of m107 rfl fun hyp => ?_
  repeat' (first | (with_reducible intro h; (try simp only [h]); (try simp only [HS] at h)) | ((with_reducible apply scEnd_of); exact rfl; exact rfl) | ((with_reducible apply ScW_of); rfl; rfl; trivial) | with_reducible first | apply Br_of | refine O1 ?_ | refine O2 ?_ | refine O3 ?_ | refine O4 ?_ | refine O5 ?_ | refine CI ?_ | simp (maxSteps := 1000000) (disch := omega) only [go_sem])
instance g115 (a0 a1 : Int) (a2 : ByteArray) (a3 a4 : Int) (a5 : ByteArray) (b0 b1 : Int) (b2 : ByteArray) (b3 b4 : Int) (b5 : ByteArray) : Fs 115 [⟨.agg, [.int .i64 a0, .int .i64 a1, .str a2, .int .i64 a3, .int .i64 a4, .str a5]⟩, ⟨.agg, [.int .i64 b0, .int .i64 b1, .str b2, .int .i64 b3, .int .i64 b4, .str b5]⟩] True (bl (decide ((⟨a0, ⟨a1, a2, a3, a4, a5⟩⟩ : TodoV) = (⟨b0, ⟨b1, b2, b3, b4, b5⟩⟩ : TodoV)))) := by
  refine F_of m115 rfl fun hyp => ?_
  repeat' (first | (with_reducible intro h; (try simp only [h]); (try simp only [HS] at h)) | ((with_reducible apply scEnd_of); exact rfl; exact rfl) | ((with_reducible apply ScW_of); rfl; rfl; trivial) | with_reducible first | apply Br_of | refine O1 ?_ | refine O2 ?_ | refine O3 ?_ | refine O4 ?_ | refine O5 ?_ | refine CI ?_ | simp (maxSteps := 1000000) (disch := omega) only [go_sem])
  all_goals first | (rw [decide_eq_false]; intro e; cases e; first | exact h rfl | (simp at h; done)) | (rw [decide_eq_true]; congr 1 <;> first | assumption | (simp only [bne_eq_false_iff_eq] at *; assumption))
instance g62 (l : List LegV) (n : Int) : Fs 62 [⟨.one, [.ro 11 (rows l)]⟩, i64 n] ((0 ≤ n ∧ n ≤ 1048576) ∧ l.length ≤ 9223372036854775807 ∧ (∀ e ∈ l, e.fit)) (i64 (szI (mL LegV.mz l) n)) := by
  refine F_of m62 rfl fun hyp => ?_
  repeat' (first | (with_reducible intro h; (try simp only [h]); (try simp only [HS] at h)) | ((with_reducible apply scEnd_of); exact rfl; exact rfl) | ((with_reducible apply ScW_of); rfl; rfl; trivial) | with_reducible first | apply Br_of | refine O1 ?_ | refine O2 ?_ | refine O3 ?_ | refine O4 ?_ | refine O5 ?_ | refine CI ?_ | simp (maxSteps := 1000000) (disch := omega) only [go_sem])
  · simp only [Prod.mk.injEq, SV.mk.injEq, List.cons.injEq, Cell.int.injEq, and_true, true_and]; unfold mL; have := mS_nn LegV.mz_nn l; rw [szI_lo (by omega)]
  · refine LoopK_of (α := Nat × Int) (fun p => ⟨[(5, i64 p.1), (1, i64 p.2), (0, ⟨.one, [.ro 11 (rows l)]⟩)], [], [(0, ⟨.one, [.ro 11 (rows l)]⟩), (1, i64 n)]⟩) (fun p => p.1 ≤ l.length ∧ (0 ≤ p.2 ∧ p.2 ≤ 1048576) ∧ p.2 = n - l.length - mS LegV.mz (l.take p.1)) (fun p => l.length - p.1) (0, n - l.length) rfl ⟨Nat.zero_le _, by simp only; omega, by simp [mS]⟩ ?_
    rintro ⟨i, m⟩ ⟨h1, h2, h3⟩
    simp only at h1 h2 h3
    have hs : i < l.length → (l.getD i default).fit := fun h => hyp.2.2 _ (getD_mem default h)
    simp only [LegV.fit] at hs
    have hr := szI_rng (LegV.mz (l.getD i default)) m (LegV.mz_nn _) (by omega)
    have he : LegV.mz (l.getD i default) = ((l.getD i default).Op.key.size : Int) + ((l.getD i default).Op.d.size : Int) + ((l.getD i default).Answer.d.size : Int) := rfl
    repeat' (first | (with_reducible intro h; (try simp only [h]); (try simp only [HS] at h)) | ((with_reducible apply scEnd_of); exact rfl; exact rfl) | ((with_reducible apply ScW_of); rfl; rfl; trivial) | with_reducible first | apply Br_of | refine O1 ?_ | refine O2 ?_ | refine O3 ?_ | refine O4 ?_ | refine O5 ?_ | refine CI ?_ | simp (maxSteps := 1000000) (disch := omega) only [go_sem, ← he])
    all_goals (try (exfalso; omega))
    · rw [sz_stop LegV.mz_nn default (by omega) h3 h h2.1]
    · exact LoopQ_of (i + 1, szI (LegV.mz (l.getD i default)) m) rfl ⟨by simp only; omega, by simp only; omega, sz_go default (by omega) h3 (by omega)⟩ (by simp only; omega)
    · rw [sz_end (f := LegV.mz) (by omega) h3 h2.1]
instance g67 (l : List LegV) : Fs 67 [⟨.one, [.ro 11 (rows l)]⟩] (l.length ≤ 1048576) (⟨.one, [.own 11 (rows l)]⟩) := by
  refine F_of m67 rfl fun hyp => ?_
  repeat' (first | (with_reducible intro h; (try simp only [h]); (try simp only [HS] at h)) | ((with_reducible apply scEnd_of); exact rfl; exact rfl) | ((with_reducible apply ScW_of); rfl; rfl; trivial) | with_reducible first | apply Br_of | refine O1 ?_ | refine O2 ?_ | refine O3 ?_ | refine O4 ?_ | refine O5 ?_ | refine CI ?_ | simp (maxSteps := 1000000) (disch := omega) only [go_sem])
  refine LoopK_of (α := Nat) (fun p => ⟨[(4, i64 p), (3, ⟨.one, [.own 11 (rows (l.take p ++ List.replicate (l.length - p) default))]⟩), (0, ⟨.one, [.ro 11 (rows l)]⟩)], [], [(0, ⟨.one, [.ro 11 (rows l)]⟩)]⟩) (fun p => p ≤ l.length) (fun p => l.length - p) 0 ?h0 (Nat.zero_le _) ?_
  case h0 => rw [List.take_zero, List.nil_append, Nat.sub_zero, ← rows_fill]; rfl
  intro i hi
  have hlen : (l.take i ++ List.replicate (l.length - i) default).length = l.length := by simp; omega
  repeat' (first | (with_reducible intro h; (try simp only [h]); (try simp only [HS] at h)) | ((with_reducible apply scEnd_of); exact rfl; exact rfl) | ((with_reducible apply ScW_of); rfl; rfl; trivial) | with_reducible first | apply Br_of | refine O1 ?_ | refine O2 ?_ | refine O3 ?_ | refine O4 ?_ | refine O5 ?_ | refine CI ?_ | simp (maxSteps := 1000000) (disch := omega) only [go_sem, hlen])
  · rw [fill_step default (by omega)]
    exact LoopQ_of (i + 1) rfl (by omega) (by omega)
  · have e : i = l.length := by omega
    subst e
    simp
instance g77 (l m : List LegV) : Fs 77 [⟨.one, [.ro 11 (rows l)]⟩, ⟨.one, [.ro 11 (rows m)]⟩] (l.length ≤ 1048576) (bl (decide (l = m))) := by
  refine F_of m77 rfl fun hyp => ?_
  repeat' (first | (with_reducible intro h; (try simp only [h]); (try simp only [HS] at h)) | ((with_reducible apply scEnd_of); exact rfl; exact rfl) | ((with_reducible apply ScW_of); rfl; rfl; trivial) | with_reducible first | apply Br_of | refine O1 ?_ | refine O2 ?_ | refine O3 ?_ | refine O4 ?_ | refine O5 ?_ | refine CI ?_ | simp (maxSteps := 1000000) (disch := omega) only [go_sem])
  · rw [decide_eq_false]; rintro rfl; omega
  · refine LoopK_of (α := Nat) (fun p => ⟨[(5, i64 p), (1, ⟨.one, [.ro 11 (rows m)]⟩), (0, ⟨.one, [.ro 11 (rows l)]⟩)], [], [(0, ⟨.one, [.ro 11 (rows l)]⟩), (1, ⟨.one, [.ro 11 (rows m)]⟩)]⟩) (fun p => p ≤ l.length ∧ l.take p = m.take p) (fun p => l.length - p) 0 rfl ⟨Nat.zero_le _, rfl⟩ ?_
    rintro i ⟨h1, h2⟩
    repeat' (first | (with_reducible intro h; (try simp only [h]); (try simp only [HS] at h)) | ((with_reducible apply scEnd_of); exact rfl; exact rfl) | ((with_reducible apply ScW_of); rfl; rfl; trivial) | with_reducible first | apply Br_of | refine O1 ?_ | refine O2 ?_ | refine O3 ?_ | refine O4 ?_ | refine O5 ?_ | refine CI ?_ | simp (maxSteps := 1000000) (disch := omega) only [go_sem])
    · rw [decide_eq_false]; rintro rfl; simp_all
    · exact LoopQ_of (i + 1) rfl ⟨by omega, take_eq_snoc default (by omega) (by omega) h2 (by assumption)⟩ (by omega)
    · rw [decide_eq_true (take_full (by omega) (by omega) h2)]
instance g63 (l : List TodoV) (n : Int) : Fs 63 [⟨.one, [.ro 6 (rows l)]⟩, i64 n] ((0 ≤ n ∧ n ≤ 1048576) ∧ l.length ≤ 9223372036854775807 ∧ (∀ e ∈ l, e.fit)) (i64 (szI (mL TodoV.mz l) n)) := by
  refine F_of m63 rfl fun hyp => ?_
  repeat' (first | (with_reducible intro h; (try simp only [h]); (try simp only [HS] at h)) | ((with_reducible apply scEnd_of); exact rfl; exact rfl) | ((with_reducible apply ScW_of); rfl; rfl; trivial) | with_reducible first | apply Br_of | refine O1 ?_ | refine O2 ?_ | refine O3 ?_ | refine O4 ?_ | refine O5 ?_ | refine CI ?_ | simp (maxSteps := 1000000) (disch := omega) only [go_sem])
  · simp only [Prod.mk.injEq, SV.mk.injEq, List.cons.injEq, Cell.int.injEq, and_true, true_and]; unfold mL; have := mS_nn TodoV.mz_nn l; rw [szI_lo (by omega)]
  · refine LoopK_of (α := Nat × Int) (fun p => ⟨[(5, i64 p.1), (1, i64 p.2), (0, ⟨.one, [.ro 6 (rows l)]⟩)], [], [(0, ⟨.one, [.ro 6 (rows l)]⟩), (1, i64 n)]⟩) (fun p => p.1 ≤ l.length ∧ (0 ≤ p.2 ∧ p.2 ≤ 1048576) ∧ p.2 = n - l.length - mS TodoV.mz (l.take p.1)) (fun p => l.length - p.1) (0, n - l.length) rfl ⟨Nat.zero_le _, by simp only; omega, by simp [mS]⟩ ?_
    rintro ⟨i, m⟩ ⟨h1, h2, h3⟩
    simp only at h1 h2 h3
    have hs : i < l.length → (l.getD i default).fit := fun h => hyp.2.2 _ (getD_mem default h)
    simp only [TodoV.fit] at hs
    have hr := szI_rng (TodoV.mz (l.getD i default)) m (TodoV.mz_nn _) (by omega)
    have he : TodoV.mz (l.getD i default) = ((l.getD i default).Op.key.size : Int) + ((l.getD i default).Op.d.size : Int) := rfl
    repeat' (first | (with_reducible intro h; (try simp only [h]); (try simp only [HS] at h)) | ((with_reducible apply scEnd_of); exact rfl; exact rfl) | ((with_reducible apply ScW_of); rfl; rfl; trivial) | with_reducible first | apply Br_of | refine O1 ?_ | refine O2 ?_ | refine O3 ?_ | refine O4 ?_ | refine O5 ?_ | refine CI ?_ | simp (maxSteps := 1000000) (disch := omega) only [go_sem, ← he])
    all_goals (try (exfalso; omega))
    · rw [sz_stop TodoV.mz_nn default (by omega) h3 h h2.1]
    · exact LoopQ_of (i + 1, szI (TodoV.mz (l.getD i default)) m) rfl ⟨by simp only; omega, by simp only; omega, sz_go default (by omega) h3 (by omega)⟩ (by simp only; omega)
    · rw [sz_end (f := TodoV.mz) (by omega) h3 h2.1]
instance g68 (l : List TodoV) : Fs 68 [⟨.one, [.ro 6 (rows l)]⟩] (l.length ≤ 1048576) (⟨.one, [.own 6 (rows l)]⟩) := by
  refine F_of m68 rfl fun hyp => ?_
  repeat' (first | (with_reducible intro h; (try simp only [h]); (try simp only [HS] at h)) | ((with_reducible apply scEnd_of); exact rfl; exact rfl) | ((with_reducible apply ScW_of); rfl; rfl; trivial) | with_reducible first | apply Br_of | refine O1 ?_ | refine O2 ?_ | refine O3 ?_ | refine O4 ?_ | refine O5 ?_ | refine CI ?_ | simp (maxSteps := 1000000) (disch := omega) only [go_sem])
  refine LoopK_of (α := Nat) (fun p => ⟨[(4, i64 p), (3, ⟨.one, [.own 6 (rows (l.take p ++ List.replicate (l.length - p) default))]⟩), (0, ⟨.one, [.ro 6 (rows l)]⟩)], [], [(0, ⟨.one, [.ro 6 (rows l)]⟩)]⟩) (fun p => p ≤ l.length) (fun p => l.length - p) 0 ?h0 (Nat.zero_le _) ?_
  case h0 => rw [List.take_zero, List.nil_append, Nat.sub_zero, ← rows_fill]; rfl
  intro i hi
  have hlen : (l.take i ++ List.replicate (l.length - i) default).length = l.length := by simp; omega
  repeat' (first | (with_reducible intro h; (try simp only [h]); (try simp only [HS] at h)) | ((with_reducible apply scEnd_of); exact rfl; exact rfl) | ((with_reducible apply ScW_of); rfl; rfl; trivial) | with_reducible first | apply Br_of | refine O1 ?_ | refine O2 ?_ | refine O3 ?_ | refine O4 ?_ | refine O5 ?_ | refine CI ?_ | simp (maxSteps := 1000000) (disch := omega) only [go_sem, hlen])
  · rw [fill_step default (by omega)]
    exact LoopQ_of (i + 1) rfl (by omega) (by omega)
  · have e : i = l.length := by omega
    subst e
    simp
instance g78 (l m : List TodoV) : Fs 78 [⟨.one, [.ro 6 (rows l)]⟩, ⟨.one, [.ro 6 (rows m)]⟩] (l.length ≤ 1048576) (bl (decide (l = m))) := by
  refine F_of m78 rfl fun hyp => ?_
  repeat' (first | (with_reducible intro h; (try simp only [h]); (try simp only [HS] at h)) | ((with_reducible apply scEnd_of); exact rfl; exact rfl) | ((with_reducible apply ScW_of); rfl; rfl; trivial) | with_reducible first | apply Br_of | refine O1 ?_ | refine O2 ?_ | refine O3 ?_ | refine O4 ?_ | refine O5 ?_ | refine CI ?_ | simp (maxSteps := 1000000) (disch := omega) only [go_sem])
  · rw [decide_eq_false]; rintro rfl; omega
  · refine LoopK_of (α := Nat) (fun p => ⟨[(5, i64 p), (1, ⟨.one, [.ro 6 (rows m)]⟩), (0, ⟨.one, [.ro 6 (rows l)]⟩)], [], [(0, ⟨.one, [.ro 6 (rows l)]⟩), (1, ⟨.one, [.ro 6 (rows m)]⟩)]⟩) (fun p => p ≤ l.length ∧ l.take p = m.take p) (fun p => l.length - p) 0 rfl ⟨Nat.zero_le _, rfl⟩ ?_
    rintro i ⟨h1, h2⟩
    repeat' (first | (with_reducible intro h; (try simp only [h]); (try simp only [HS] at h)) | ((with_reducible apply scEnd_of); exact rfl; exact rfl) | ((with_reducible apply ScW_of); rfl; rfl; trivial) | with_reducible first | apply Br_of | refine O1 ?_ | refine O2 ?_ | refine O3 ?_ | refine O4 ?_ | refine O5 ?_ | refine CI ?_ | simp (maxSteps := 1000000) (disch := omega) only [go_sem])
    · rw [decide_eq_false]; rintro rfl; simp_all
    · exact LoopQ_of (i + 1) rfl ⟨by omega, take_eq_snoc default (by omega) (by omega) h2 (by assumption)⟩ (by omega)
    · rw [decide_eq_true (take_full (by omega) (by omega) h2)]
@[go_sem] theorem rowsI_put {l : List Int} {i : Nat} {a : Int} (h : i < l.length) : setCells 1 (rowsI l) i [.int .i64 a] = rowsI (l.set i a) := by
  have := setCells_full (sz := 1) (rowsI_get h) rfl (show ([.int .i64 a] : List D).length = 1 from rfl)
  rw [Nat.mul_one] at this
  rw [this]
  simp [rowsI, List.map_set]
theorem rowsI_fill (n : Nat) (x : Int) : List.replicate n ([.int .i64 x] : List D) = rowsI (List.replicate n x) := by simp [rowsI]
attribute [push_cast] rowsI_length
instance g61 (l : List Int) (n : Int) : Fs 61 [⟨.one, [.ro 1 (rowsI l)]⟩, i64 n] ((0 ≤ n ∧ n ≤ 1048576) ∧ l.length ≤ 9223372036854775807) (i64 (szI l.length n)) := by
  refine F_of m61 rfl fun hyp => ?_
  repeat' (first | (with_reducible intro h; (try simp only [h]); (try simp only [HS] at h)) | ((with_reducible apply scEnd_of); exact rfl; exact rfl) | ((with_reducible apply ScW_of); rfl; rfl; trivial) | with_reducible first | apply Br_of | refine O1 ?_ | refine O2 ?_ | refine O3 ?_ | refine O4 ?_ | refine O5 ?_ | refine CI ?_ | simp (maxSteps := 1000000) (disch := omega) only [go_sem])
  all_goals (simp only [Prod.mk.injEq, SV.mk.injEq, List.cons.injEq, Cell.int.injEq, and_true, true_and]; unfold szI at *; (repeat' split at *) <;> omega)
instance g66 (l : List Int) : Fs 66 [⟨.one, [.ro 1 (rowsI l)]⟩] (l.length ≤ 1048576) (⟨.one, [.own 1 (rowsI l)]⟩) := by
  refine F_of m66 rfl fun hyp => ?_
  repeat' (first | (with_reducible intro h; (try simp only [h]); (try simp only [HS] at h)) | ((with_reducible apply scEnd_of); exact rfl; exact rfl) | ((with_reducible apply ScW_of); rfl; rfl; trivial) | with_reducible first | apply Br_of | refine O1 ?_ | refine O2 ?_ | refine O3 ?_ | refine O4 ?_ | refine O5 ?_ | refine CI ?_ | simp (maxSteps := 1000000) (disch := omega) only [go_sem])
  refine LoopK_of (α := Nat) (fun p => ⟨[(4, i64 p), (3, ⟨.one, [.own 1 (rowsI (l.take p ++ List.replicate (l.length - p) 0))]⟩), (0, ⟨.one, [.ro 1 (rowsI l)]⟩)], [], [(0, ⟨.one, [.ro 1 (rowsI l)]⟩)]⟩) (fun p => p ≤ l.length) (fun p => l.length - p) 0 ?h0 (Nat.zero_le _) ?_
  case h0 => rw [List.take_zero, List.nil_append, Nat.sub_zero, ← rowsI_fill]; rfl
  intro i hi
  have hlen : (l.take i ++ List.replicate (l.length - i) 0).length = l.length := by simp; omega
  repeat' (first | (with_reducible intro h; (try simp only [h]); (try simp only [HS] at h)) | ((with_reducible apply scEnd_of); exact rfl; exact rfl) | ((with_reducible apply ScW_of); rfl; rfl; trivial) | with_reducible first | apply Br_of | refine O1 ?_ | refine O2 ?_ | refine O3 ?_ | refine O4 ?_ | refine O5 ?_ | refine CI ?_ | simp (maxSteps := 1000000) (disch := omega) only [go_sem, hlen])
  · rw [fill_step 0 (by omega)]
    exact LoopQ_of (i + 1) rfl (by omega) (by omega)
  · have e : i = l.length := by omega
    subst e
    simp
instance g75 (l m : List Int) : Fs 75 [⟨.one, [.ro 1 (rowsI l)]⟩, ⟨.one, [.ro 1 (rowsI m)]⟩] (l.length ≤ 1048576) (bl (decide (l = m))) := by
  refine F_of m75 rfl fun hyp => ?_
  repeat' (first | (with_reducible intro h; (try simp only [h]); (try simp only [HS] at h)) | ((with_reducible apply scEnd_of); exact rfl; exact rfl) | ((with_reducible apply ScW_of); rfl; rfl; trivial) | with_reducible first | apply Br_of | refine O1 ?_ | refine O2 ?_ | refine O3 ?_ | refine O4 ?_ | refine O5 ?_ | refine CI ?_ | simp (maxSteps := 1000000) (disch := omega) only [go_sem])
  · rw [decide_eq_false]; rintro rfl; omega
  · refine LoopK_of (α := Nat) (fun p => ⟨[(5, i64 p), (1, ⟨.one, [.ro 1 (rowsI m)]⟩), (0, ⟨.one, [.ro 1 (rowsI l)]⟩)], [], [(0, ⟨.one, [.ro 1 (rowsI l)]⟩), (1, ⟨.one, [.ro 1 (rowsI m)]⟩)]⟩) (fun p => p ≤ l.length ∧ l.take p = m.take p) (fun p => l.length - p) 0 rfl ⟨Nat.zero_le _, rfl⟩ ?_
    rintro i ⟨h1, h2⟩
    repeat' (first | (with_reducible intro h; (try simp only [h]); (try simp only [HS] at h)) | ((with_reducible apply scEnd_of); exact rfl; exact rfl) | ((with_reducible apply ScW_of); rfl; rfl; trivial) | with_reducible first | apply Br_of | refine O1 ?_ | refine O2 ?_ | refine O3 ?_ | refine O4 ?_ | refine O5 ?_ | refine CI ?_ | simp (maxSteps := 1000000) (disch := omega) only [go_sem])
    · rw [decide_eq_false]; rintro rfl; simp_all
    · exact LoopQ_of (i + 1) rfl ⟨by omega, take_eq_snoc 0 (by omega) (by omega) h2 (by assumption)⟩ (by omega)
    · rw [decide_eq_true (take_full (by omega) (by omega) h2)]
structure CallV where
  Kind : Int
  Key : ByteArray
  From : Int
  To : Int
  Data : ByteArray
  deriving DecidableEq
instance : Row CallV := { default := ⟨0, ⟨#[]⟩, 0, 0, ⟨#[]⟩⟩, sz := 5, row := fun x => [.int .i64 x.Kind, .str x.Key, .int .i64 x.From, .int .i64 x.To, .str x.Data], len := fun _ => rfl }
@[go_sem] theorem CallV.row_eq (x : CallV) : Row.row x = [.int .i64 x.Kind, .str x.Key, .int .i64 x.From, .int .i64 x.To, .str x.Data] := rfl
@[go_sem] theorem CallV.put {l : List CallV} {i : Nat} {a0 : Int} {a1 : ByteArray} {a2 a3 : Int} {a4 : ByteArray} (h : i < l.length) : setCells 5 (rows l) (i * 5) [.int .i64 a0, .str a1, .int .i64 a2, .int .i64 a3, .str a4] = rows (l.set i (⟨a0, a1, a2, a3, a4⟩ : CallV)) := rows_put rfl (⟨a0, a1, a2, a3, a4⟩ : CallV) h
@[go_sem] theorem CallV.snoc {l : List CallV} {a0 : Int} {a1 : ByteArray} {a2 a3 : Int} {a4 : ByteArray} : rows l ++ [[.int .i64 a0, .str a1, .int .i64 a2, .int .i64 a3, .str a4]] = rows (l ++ [(⟨a0, a1, a2, a3, a4⟩ : CallV)]) := rows_snoc l (⟨a0, a1, a2, a3, a4⟩ : CallV)
@[go_sem] theorem CallV.eta (x : CallV) : (⟨x.Kind, x.Key, x.From, x.To, x.Data⟩ : CallV) = x := rfl
def CallV.mz (x : CallV) : Int := (x.Key.size : Int) + (x.Data.size : Int)
theorem CallV.mz_nn (x : CallV) : 0 ≤ x.mz := by unfold CallV.mz; omega
def CallV.fit (x : CallV) : Prop := x.Key.size ≤ 9223372036854775807 ∧ x.Data.size ≤ 9223372036854775807
structure RouterV where
  Id : Int
  Serials : List Int
  Busy : Bool
  Call : CallV
  Begun : Int
  Legs : List LegV
  Todo : List TodoV
  deriving DecidableEq
@[go_sem] theorem RouterV.eta (x : RouterV) : (⟨x.Id, x.Serials, x.Busy, x.Call, x.Begun, x.Legs, x.Todo⟩ : RouterV) = x := rfl
def RouterV.mz (x : RouterV) : Int := (x.Serials.length : Int) + (x.Call.Key.size : Int) + (x.Call.Data.size : Int) + mL LegV.mz x.Legs + mL TodoV.mz x.Todo
theorem RouterV.mz_nn (x : RouterV) : 0 ≤ x.mz := by unfold RouterV.mz; have := mL_nn LegV.mz_nn x.Legs; have := mL_nn TodoV.mz_nn x.Todo; omega
def RouterV.fit (x : RouterV) : Prop := x.Serials.length ≤ 9223372036854775807 ∧ x.Call.Key.size ≤ 9223372036854775807 ∧ x.Call.Data.size ≤ 9223372036854775807 ∧ x.Legs.length ≤ 9223372036854775807 ∧ (∀ e ∈ x.Legs, e.fit) ∧ x.Todo.length ≤ 9223372036854775807 ∧ (∀ e ∈ x.Todo, e.fit)
instance g8 (a0 : Int) (a1 : ByteArray) (a2 a3 : Int) (a4 : ByteArray) (n : Int) : Fs 8 [⟨.agg, [.int .i64 a0, .str a1, .int .i64 a2, .int .i64 a3, .str a4]⟩, i64 n] ((0 ≤ n ∧ n ≤ 1048576) ∧ a1.size ≤ 9223372036854775807 ∧ a4.size ≤ 9223372036854775807) (i64 (szI ((a1.size : Int) + (a4.size : Int)) n)) := by
  refine F_of m8 rfl fun hyp => ?_
  have s0 : 0 ≤ (a1.size : Int) := by omega
  have r0 := szI_cases ((a1.size : Int)) n
  have s1 : 0 ≤ (a4.size : Int) := by omega
  have r1 := szI_cases ((a4.size : Int)) (szI ((a1.size : Int)) n)
  have rt := szI_cases ((a1.size : Int) + (a4.size : Int)) n
  repeat' (first | (with_reducible intro h; (try simp only [h]); (try simp only [HS] at h)) | ((with_reducible apply scEnd_of); exact rfl; exact rfl) | ((with_reducible apply ScW_of); rfl; rfl; trivial) | with_reducible first | apply Br_of | refine O1 ?_ | refine O2 ?_ | refine O3 ?_ | refine O4 ?_ | refine O5 ?_ | refine CI ?_ | simp (maxSteps := 1000000) (disch := omega) only [go_sem])
  all_goals (try (exfalso; omega))
  all_goals (simp only [Prod.mk.injEq, SV.mk.injEq, List.cons.injEq, Cell.int.injEq, and_true, true_and]; omega)
instance g10 (a0 : Int) (a1 : ByteArray) (a2 a3 : Int) (a4 : ByteArray) : Fs 10 [⟨.agg, [.int .i64 a0, .str a1, .int .i64 a2, .int .i64 a3, .str a4]⟩] True (⟨.agg, [.int .i64 a0, .str a1, .int .i64 a2, .int .i64 a3, .str a4]⟩) := by
  refine F_of m10 rfl fun hyp => ?_
  repeat' (first | (with_reducible intro h; (try simp only [h]); (try simp only [HS] at h)) | ((with_reducible apply scEnd_of); exact rfl; exact rfl) | ((with_reducible apply ScW_of); rfl; rfl; trivial) | with_reducible first | apply Br_of | refine O1 ?_ | refine O2 ?_ | refine O3 ?_ | refine O4 ?_ | refine O5 ?_ | refine CI ?_ | simp (maxSteps := 1000000) (disch := omega) only [go_sem])
instance g76 (a0 : Int) (a1 : ByteArray) (a2 a3 : Int) (a4 : ByteArray) (b0 : Int) (b1 : ByteArray) (b2 b3 : Int) (b4 : ByteArray) : Fs 76 [⟨.agg, [.int .i64 a0, .str a1, .int .i64 a2, .int .i64 a3, .str a4]⟩, ⟨.agg, [.int .i64 b0, .str b1, .int .i64 b2, .int .i64 b3, .str b4]⟩] True (bl (decide ((⟨a0, a1, a2, a3, a4⟩ : CallV) = (⟨b0, b1, b2, b3, b4⟩ : CallV)))) := by
  refine F_of m76 rfl fun hyp => ?_
  repeat' (first | (with_reducible intro h; (try simp only [h]); (try simp only [HS] at h)) | ((with_reducible apply scEnd_of); exact rfl; exact rfl) | ((with_reducible apply ScW_of); rfl; rfl; trivial) | with_reducible first | apply Br_of | refine O1 ?_ | refine O2 ?_ | refine O3 ?_ | refine O4 ?_ | refine O5 ?_ | refine CI ?_ | simp (maxSteps := 1000000) (disch := omega) only [go_sem])
  all_goals first | (rw [decide_eq_false]; intro e; cases e; first | exact h rfl | (simp at h; done)) | (rw [decide_eq_true]; congr 1 <;> first | assumption | (simp only [bne_eq_false_iff_eq] at *; assumption))
instance g19 (a0 : Int) (a1 : List Int) (a2 : Bool) (a3 : Int) (a4 : ByteArray) (a5 a6 : Int) (a7 : ByteArray) (a8 : Int) (a9 : List LegV) (a10 : List TodoV) (n : Int) : Fs 19 [⟨.agg, [.int .i64 a0, .ro 1 (rowsI a1), .bool a2, .int .i64 a3, .str a4, .int .i64 a5, .int .i64 a6, .str a7, .int .i64 a8, .ro 11 (rows a9), .ro 6 (rows a10)]⟩, i64 n] ((0 ≤ n ∧ n ≤ 1048576) ∧ a1.length ≤ 9223372036854775807 ∧ a4.size ≤ 9223372036854775807 ∧ a7.size ≤ 9223372036854775807 ∧ a9.length ≤ 9223372036854775807 ∧ (∀ e ∈ a9, e.fit) ∧ a10.length ≤ 9223372036854775807 ∧ (∀ e ∈ a10, e.fit)) (i64 (szI ((a1.length : Int) + (a4.size : Int) + (a7.size : Int) + mL LegV.mz a9 + mL TodoV.mz a10) n)) := by
  refine F_of m19 rfl fun hyp => ?_
  have s0 : 0 ≤ (a1.length : Int) := by omega
  have r0 := szI_cases ((a1.length : Int)) n
  have s1 : 0 ≤ (a4.size : Int) + (a7.size : Int) := by omega
  have r1 := szI_cases ((a4.size : Int) + (a7.size : Int)) (szI ((a1.length : Int)) n)
  have s2 : 0 ≤ mL LegV.mz a9 := by have := mL_nn LegV.mz_nn a9; omega
  have r2 := szI_cases (mL LegV.mz a9) (szI ((a4.size : Int) + (a7.size : Int)) (szI ((a1.length : Int)) n))
  have s3 : 0 ≤ mL TodoV.mz a10 := by have := mL_nn TodoV.mz_nn a10; omega
  have r3 := szI_cases (mL TodoV.mz a10) (szI (mL LegV.mz a9) (szI ((a4.size : Int) + (a7.size : Int)) (szI ((a1.length : Int)) n)))
  obtain ⟨hn, q0, q1, q2, q3, q4, q5, q6⟩ := id hyp
  have rt := szI_cases ((a1.length : Int) + (a4.size : Int) + (a7.size : Int) + mL LegV.mz a9 + mL TodoV.mz a10) n
  repeat' (first | (with_reducible intro h; (try simp only [h]); (try simp only [HS] at h)) | ((with_reducible apply scEnd_of); exact rfl; exact rfl) | ((with_reducible apply ScW_of); rfl; rfl; trivial) | with_reducible first | apply Br_of | refine O1 ?_ | refine O2 ?_ | refine O3 ?_ | refine O4 ?_ | refine O5 ?_ | refine CI ?_ | simp (maxSteps := 1000000) (disch := omega) only [go_sem])
  all_goals (try (exfalso; omega))
  all_goals (simp only [Prod.mk.injEq, SV.mk.injEq, List.cons.injEq, Cell.int.injEq, and_true, true_and]; omega)
instance g21 (a0 : Int) (a1 : List Int) (a2 : Bool) (a3 : Int) (a4 : ByteArray) (a5 a6 : Int) (a7 : ByteArray) (a8 : Int) (a9 : List LegV) (a10 : List TodoV) : Fs 21 [⟨.agg, [.int .i64 a0, .ro 1 (rowsI a1), .bool a2, .int .i64 a3, .str a4, .int .i64 a5, .int .i64 a6, .str a7, .int .i64 a8, .ro 11 (rows a9), .ro 6 (rows a10)]⟩] (a1.length ≤ 1048576 ∧ a9.length ≤ 1048576 ∧ a10.length ≤ 1048576) (⟨.agg, [.int .i64 a0, .own 1 (rowsI a1), .bool a2, .int .i64 a3, .str a4, .int .i64 a5, .int .i64 a6, .str a7, .int .i64 a8, .own 11 (rows a9), .own 6 (rows a10)]⟩) := by
  refine F_of m21 rfl fun hyp => ?_
  repeat' (first | (with_reducible intro h; (try simp only [h]); (try simp only [HS] at h)) | ((with_reducible apply scEnd_of); exact rfl; exact rfl) | ((with_reducible apply ScW_of); rfl; rfl; trivial) | with_reducible first | apply Br_of | refine O1 ?_ | refine O2 ?_ | refine O3 ?_ | refine O4 ?_ | refine O5 ?_ | refine CI ?_ | simp (maxSteps := 1000000) (disch := omega) only [go_sem])
instance g23 (a0 : Int) (a1 : List Int) (a2 : Bool) (a3 : Int) (a4 : ByteArray) (a5 a6 : Int) (a7 : ByteArray) (a8 : Int) (a9 : List LegV) (a10 : List TodoV) (b0 : Int) (b1 : List Int) (b2 : Bool) (b3 : Int) (b4 : ByteArray) (b5 b6 : Int) (b7 : ByteArray) (b8 : Int) (b9 : List LegV) (b10 : List TodoV) : Fs 23 [⟨.agg, [.int .i64 a0, .ro 1 (rowsI a1), .bool a2, .int .i64 a3, .str a4, .int .i64 a5, .int .i64 a6, .str a7, .int .i64 a8, .ro 11 (rows a9), .ro 6 (rows a10)]⟩, ⟨.agg, [.int .i64 b0, .ro 1 (rowsI b1), .bool b2, .int .i64 b3, .str b4, .int .i64 b5, .int .i64 b6, .str b7, .int .i64 b8, .ro 11 (rows b9), .ro 6 (rows b10)]⟩] (a1.length ≤ 1048576 ∧ a9.length ≤ 1048576 ∧ a10.length ≤ 1048576) (bl (decide ((⟨a0, a1, a2, ⟨a3, a4, a5, a6, a7⟩, a8, a9, a10⟩ : RouterV) = (⟨b0, b1, b2, ⟨b3, b4, b5, b6, b7⟩, b8, b9, b10⟩ : RouterV)))) := by
  refine F_of m23 rfl fun hyp => ?_
  repeat' (first | (with_reducible intro h; (try simp only [h]); (try simp only [HS] at h)) | ((with_reducible apply scEnd_of); exact rfl; exact rfl) | ((with_reducible apply ScW_of); rfl; rfl; trivial) | with_reducible first | apply Br_of | refine O1 ?_ | refine O2 ?_ | refine O3 ?_ | refine O4 ?_ | refine O5 ?_ | refine CI ?_ | simp (maxSteps := 1000000) (disch := omega) only [go_sem])
  all_goals first | (rw [decide_eq_false]; intro e; cases e; first | exact h rfl | (simp at h; done)) | (rw [decide_eq_true]; congr 1 <;> first | assumption | (simp only [bne_eq_false_iff_eq] at *; assumption))
def idxF {α : Type} (p : α → Bool) : List α → Int
  | [] => -1
  | x :: t => if p x = true then 0 else if idxF p t < 0 then -1 else idxF p t + 1
def idxG {α : Type} (p : α → Bool) (l : List α) (i : Nat) : Int := if idxF p (l.drop i) < 0 then -1 else idxF p (l.drop i) + i
theorem idxG_zero {α : Type} {p : α → Bool} {l : List α} : idxG p l 0 = idxF p l := by
  unfold idxG
  rw [List.drop_zero]
  have : ∀ l : List α, -1 ≤ idxF p l := fun l => by
    induction l with
    | nil => simp [idxF]
    | cons x t ih => simp only [idxF]; split; omega; split <;> omega
  have := this l
  split <;> omega
theorem idxG_stop {α : Type} {p : α → Bool} {l : List α} {i : Nat} (z : α) (h : i < l.length) (h2 : p (l.getD i z) = true) : idxG p l i = i := by
  unfold idxG; rw [drop_getD z h, idxF, if_pos h2]; simp
theorem idxG_go {α : Type} {p : α → Bool} {l : List α} {i : Nat} (z : α) (h : i < l.length) (h2 : p (l.getD i z) = false) : idxG p l i = idxG p l (i + 1) := by
  unfold idxG; rw [drop_getD z h, idxF, h2]; simp only [Bool.false_eq_true, if_false]
  split <;> (try split) <;> (try split) <;> omega
theorem idxG_end {α : Type} {p : α → Bool} {l : List α} {i : Nat} (h : l.length ≤ i) : idxG p l i = -1 := by
  unfold idxG; rw [List.drop_of_length_le h]; simp [idxF]
theorem idxF_any {α : Type} {p : α → Bool} : ∀ l : List α, decide (0 ≤ idxF p l) = l.any p
  | [] => rfl
  | x :: t => by
    have ih := idxF_any (p := p) t
    simp only [idxF, List.any_cons]
    by_cases hx : p x = true
    · simp [hx]
    · rw [Bool.not_eq_true] at hx
      simp only [hx, Bool.false_eq_true, if_false, Bool.false_or]
      rw [← ih, decide_eq_decide]
      split <;> omega
instance g108 (g : Nat) (p : Int → Bool) [∀ x, Fs g [i64 x] True (bl (p x))] (l : List Int) : Fs 108 [⟨.one, [.ro 1 (rowsI l)]⟩, ⟨.one, [.fn (.func g) [] []]⟩] (l.length ≤ 9223372036854775807) (i64 (idxF p l)) := by
  refine F_of m108 rfl fun hyp => ?_
  repeat' (first | (with_reducible intro h; (try simp only [h]); (try simp only [HS] at h)) | ((with_reducible apply scEnd_of); exact rfl; exact rfl) | ((with_reducible apply ScW_of); rfl; rfl; trivial) | with_reducible first | apply Br_of | refine O1 ?_ | refine O2 ?_ | refine O3 ?_ | refine O4 ?_ | refine O5 ?_ | refine CI ?_ | simp (maxSteps := 1000000) (disch := omega) only [go_sem])
  refine LoopK_of (α := Nat) (fun q => ⟨[(8, i64 q), (7, i64 l.length), (1, ⟨.one, [.fn (.func g) [] []]⟩), (0, ⟨.one, [.ro 1 (rowsI l)]⟩)], [], [(0, ⟨.one, [.ro 1 (rowsI l)]⟩), (1, ⟨.one, [.fn (.func g) [] []]⟩)]⟩) (fun q => q ≤ l.length ∧ idxG p l q = idxF p l) (fun q => l.length - q) 0 rfl ⟨Nat.zero_le _, idxG_zero⟩ ?_
  rintro i ⟨h1, h2⟩
  repeat' (first | (with_reducible intro h; (try simp only [h]); (try simp only [HS] at h)) | ((with_reducible apply scEnd_of); exact rfl; exact rfl) | ((with_reducible apply ScW_of); rfl; rfl; trivial) | with_reducible first | apply Br_of | refine O1 ?_ | refine O2 ?_ | refine O3 ?_ | refine O4 ?_ | refine O5 ?_ | refine CI ?_ | simp (maxSteps := 1000000) (disch := omega) only [go_sem])
  · rw [← h2, idxG_stop 0 (by omega) (by assumption)]
  · rename_i hh _
    exact LoopQ_of (i + 1) rfl ⟨by omega, by rw [← idxG_go 0 (by omega) (by assumption)]; exact h2⟩ (by omega)
  · rw [← h2, idxG_end (by omega)]
instance g70 (g : Nat) (p : Int → Bool) [∀ x, Fs g [i64 x] True (bl (p x))] (l : List Int) : Fs 70 [⟨.one, [.ro 1 (rowsI l)]⟩, ⟨.one, [.fn (.func g) [] []]⟩] (l.length ≤ 9223372036854775807) (bl (l.any p)) := by
  refine F_of m70 rfl fun hyp => ?_
  repeat' (first | (with_reducible intro h; (try simp only [h]); (try simp only [HS] at h)) | ((with_reducible apply scEnd_of); exact rfl; exact rfl) | ((with_reducible apply ScW_of); rfl; rfl; trivial) | with_reducible first | apply Br_of | refine O1 ?_ | refine O2 ?_ | refine O3 ?_ | refine O4 ?_ | refine O5 ?_ | refine CI ?_ | simp (maxSteps := 1000000) (disch := omega) only [go_sem])
  rw [idxF_any]
instance g134 (g : Nat) (p : LegV → Bool) [∀ (a0 a1 a2 : Int) (a3 : ByteArray) (a4 a5 : Int) (a6 : ByteArray) (a7 a8 a9 : Int) (a10 : ByteArray), Fs g [⟨.agg, [.int .i64 a0, .int .i64 a1, .int .i64 a2, .str a3, .int .i64 a4, .int .i64 a5, .str a6, .int .i64 a7, .int .i64 a8, .int .i64 a9, .str a10]⟩] (a3.size ≤ 9223372036854775807) (bl (p (⟨a0, a1, ⟨a2, a3, a4, a5, a6⟩, ⟨a7, a8, a9, a10⟩⟩ : LegV)))] (l : List LegV) : Fs 134 [⟨.one, [.ro 11 (rows l)]⟩, ⟨.one, [.fn (.func g) [] []]⟩] (l.length ≤ 9223372036854775807 ∧ ∀ e ∈ l, e.fit) (i64 (idxF p l)) := by
  refine F_of m134 rfl fun hyp => ?_
  repeat' (first | (with_reducible intro h; (try simp only [h]); (try simp only [HS] at h)) | ((with_reducible apply scEnd_of); exact rfl; exact rfl) | ((with_reducible apply ScW_of); rfl; rfl; trivial) | with_reducible first | apply Br_of | refine O1 ?_ | refine O2 ?_ | refine O3 ?_ | refine O4 ?_ | refine O5 ?_ | refine CI ?_ | simp (maxSteps := 1000000) (disch := omega) only [go_sem])
  refine LoopK_of (α := Nat) (fun q => ⟨[(8, i64 q), (7, i64 l.length), (1, ⟨.one, [.fn (.func g) [] []]⟩), (0, ⟨.one, [.ro 11 (rows l)]⟩)], [], [(0, ⟨.one, [.ro 11 (rows l)]⟩), (1, ⟨.one, [.fn (.func g) [] []]⟩)]⟩) (fun q => q ≤ l.length ∧ idxG p l q = idxF p l) (fun q => l.length - q) 0 rfl ⟨Nat.zero_le _, idxG_zero⟩ ?_
  rintro i ⟨h1, h2⟩
  have hs : i < l.length → (l.getD i default).fit := fun h => hyp.2 _ (getD_mem default h)
  simp only [LegV.fit] at hs
  repeat' (first | (with_reducible intro h; (try simp only [h]); (try simp only [HS] at h)) | ((with_reducible apply scEnd_of); exact rfl; exact rfl) | ((with_reducible apply ScW_of); rfl; rfl; trivial) | with_reducible first | apply Br_of | refine O1 ?_ | refine O2 ?_ | refine O3 ?_ | refine O4 ?_ | refine O5 ?_ | refine CI ?_ | simp (maxSteps := 1000000) (disch := omega) only [go_sem])
  · rw [← h2, idxG_stop default (by omega) (by assumption)]
  · rename_i hh _
    exact LoopQ_of (i + 1) rfl ⟨by omega, by rw [← idxG_go default (by omega) (by assumption)]; exact h2⟩ (by omega)
  · rw [← h2, idxG_end (by omega)]
instance g109 (g : Nat) (p : LegV → Bool) [∀ (a0 a1 a2 : Int) (a3 : ByteArray) (a4 a5 : Int) (a6 : ByteArray) (a7 a8 a9 : Int) (a10 : ByteArray), Fs g [⟨.agg, [.int .i64 a0, .int .i64 a1, .int .i64 a2, .str a3, .int .i64 a4, .int .i64 a5, .str a6, .int .i64 a7, .int .i64 a8, .int .i64 a9, .str a10]⟩] (a3.size ≤ 9223372036854775807) (bl (p (⟨a0, a1, ⟨a2, a3, a4, a5, a6⟩, ⟨a7, a8, a9, a10⟩⟩ : LegV)))] (l : List LegV) : Fs 109 [⟨.one, [.ro 11 (rows l)]⟩, ⟨.one, [.fn (.func g) [] []]⟩] (l.length ≤ 9223372036854775807 ∧ ∀ e ∈ l, e.fit) (bl (l.any p)) := by
  refine F_of m109 rfl fun hyp => ?_
  repeat' (first | (with_reducible intro h; (try simp only [h]); (try simp only [HS] at h)) | ((with_reducible apply scEnd_of); exact rfl; exact rfl) | ((with_reducible apply ScW_of); rfl; rfl; trivial) | with_reducible first | apply Br_of | refine O1 ?_ | refine O2 ?_ | refine O3 ?_ | refine O4 ?_ | refine O5 ?_ | refine CI ?_ | simp (maxSteps := 1000000) (disch := omega) only [go_sem])
  rw [idxF_any]
noncomputable def LegV.okB (x : LegV) : Bool := (decide (0 ≤ x.Group) && decide (x.Group ≤ 2)) && ((decide (1 ≤ x.Serial) && decide (x.Serial ≤ 1000000)) && (opB x.Op.k x.Op.key x.Op.f x.Op.t x.Op.d && ansB x.Answer.c x.Answer.i x.Answer.m x.Answer.d))
noncomputable def LegV.noB (x : LegV) : Bool := !x.okB
noncomputable def TodoV.okB (x : TodoV) : Bool := (decide (0 ≤ x.Group) && decide (x.Group ≤ 2)) && opB x.Op.k x.Op.key x.Op.f x.Op.t x.Op.d
def serB (l : List Int) : Bool := l.all fun n => decide (0 ≤ n) && decide (n ≤ 1000000)
def todoP (ser : List Int) (legs : List LegV) (todo : List TodoV) : Prop := todo ≠ [] ∧ todo.length + legs.length ≤ 3 ∧ (legs = [] → todo.length = 1) ∧ (∀ x ∈ todo, x.okB = true ∧ (x.Group = 0 ↔ legs = [])) ∧ 1 ≤ ser.getD (todo.getD 0 default).Group.toNat 0
def CallV.zero : CallV := ⟨0, ⟨#[]⟩, 0, 0, ⟨#[]⟩⟩
def rtP (id : Int) (ser : List Int) (busy : Bool) (c : CallV) (begun : Int) (legs : List LegV) (todo : List TodoV) : Prop :=
  (1 ≤ id ∧ id ≤ 4) ∧ ser.length = 3 ∧ (0 ≤ begun ∧ begun ≤ 1000000) ∧ serB ser = true ∧
  ((busy = false ∧ c = CallV.zero ∧ begun = 0 ∧ legs = [] ∧ todo = []) ∨
   (busy = true ∧ callB c.Kind c.Key c.From c.To c.Data = true ∧ legs.all LegV.okB = true ∧ todoP ser legs todo))
noncomputable def ifB (p : Prop) : Bool := @decide p (Classical.propDecidable p)
theorem ifB_t {p : Prop} (h : p) : ifB p = true := by unfold ifB; simp [h]
theorem ifB_f {p : Prop} (h : ¬p) : ifB p = false := by unfold ifB; simp [h]
theorem ifB_iff {p : Prop} : ifB p = true ↔ p := by unfold ifB; simp
instance g110 (a0 a1 a2 : Int) (a3 : ByteArray) (a4 a5 : Int) (a6 : ByteArray) (a7 a8 a9 : Int) (a10 : ByteArray) : Fs 110 [⟨.agg, [.int .i64 a0, .int .i64 a1, .int .i64 a2, .str a3, .int .i64 a4, .int .i64 a5, .str a6, .int .i64 a7, .int .i64 a8, .int .i64 a9, .str a10]⟩] (a3.size ≤ 9223372036854775807) (bl (LegV.noB (⟨a0, a1, ⟨a2, a3, a4, a5, a6⟩, ⟨a7, a8, a9, a10⟩⟩ : LegV))) := by
  refine F_of m110 rfl fun hyp => ?_
  repeat' (first | (with_reducible intro h; (try simp only [h]); (try simp only [HS] at h)) | ((with_reducible apply scEnd_of); exact rfl; exact rfl) | ((with_reducible apply ScW_of); rfl; rfl; trivial) | with_reducible first | apply Br_of | refine O1 ?_ | refine O2 ?_ | refine O3 ?_ | refine O4 ?_ | refine O5 ?_ | refine CI ?_ | simp (maxSteps := 1000000) (disch := omega) only [go_sem])
  all_goals (simp only [LegV.noB, LegV.okB]; simp_all [Bool.or_assoc])
instance g65 (a0 a1 a2 : Int) (a3 : ByteArray) (a4 a5 : Int) (a6 : ByteArray) (a7 a8 a9 : Int) (a10 : ByteArray) : Fs 65 [⟨.agg, [.int .i64 a0, .int .i64 a1, .int .i64 a2, .str a3, .int .i64 a4, .int .i64 a5, .str a6, .int .i64 a7, .int .i64 a8, .int .i64 a9, .str a10]⟩] True (bl (LegV.okB (⟨a0, a1, ⟨a2, a3, a4, a5, a6⟩, ⟨a7, a8, a9, a10⟩⟩ : LegV))) := by
  refine F_of m65 rfl fun hyp => ?_
  repeat' (first | (with_reducible intro h; (try simp only [h]); (try simp only [HS] at h)) | ((with_reducible apply scEnd_of); exact rfl; exact rfl) | ((with_reducible apply ScW_of); rfl; rfl; trivial) | with_reducible first | apply Br_of | refine O1 ?_ | refine O2 ?_ | refine O3 ?_ | refine O4 ?_ | refine O5 ?_ | refine CI ?_ | simp (maxSteps := 1000000) (disch := omega) only [go_sem])
  all_goals (simp only [LegV.okB]; simp_all [Bool.and_assoc])
theorem any_no {l : List LegV} : l.any LegV.noB = !l.all LegV.okB := by
  induction l with
  | nil => rfl
  | cons x t ih => simp [ih, LegV.noB]
instance g73 (l : List LegV) : Fs 73 [⟨.one, [.ro 11 (rows l)]⟩] (l.length ≤ 9223372036854775807 ∧ ∀ e ∈ l, e.fit) (bl (decide (l.length ≤ 3) && l.all LegV.okB)) := by
  refine F_of m73 rfl fun hyp => ?_
  obtain ⟨q0, q1⟩ := id hyp
  repeat' (first | (with_reducible intro h; (try simp only [h]); (try simp only [HS] at h)) | ((with_reducible apply scEnd_of); exact rfl; exact rfl) | ((with_reducible apply ScW_of); rfl; rfl; trivial) | with_reducible first | apply Br_of | refine O1 ?_ | refine O2 ?_ | refine O3 ?_ | refine O4 ?_ | refine O5 ?_ | refine CI ?_ | simp (maxSteps := 1000000) (disch := omega) only [go_sem])
  rw [any_no, Bool.not_not]
  congr 5
  exact decide_eq_decide.2 (by omega)
def tdOk (legs : List LegV) (x : TodoV) : Prop := x.okB = true ∧ (x.Group = 0 ↔ legs = [])
theorem tdOk_take {legs : List LegV} {l : List TodoV} {i : Nat} (h : i < l.length) (h1 : ∀ x ∈ l.take i, tdOk legs x) (h2 : tdOk legs (l.getD i default)) : ∀ x ∈ l.take (i + 1), tdOk legs x := by
  rw [take_snocZ default h]
  intro x hx
  rcases List.mem_append.1 hx with hx | hx
  · exact h1 x hx
  · rw [List.mem_singleton] at hx; subst hx; exact h2
theorem nil_iff {α : Type} {l : List α} : (l = []) ↔ ((l.length : Int) = 0) := by cases l <;> simp <;> omega
theorem TodoV.ok_grp {x : TodoV} (h : x.okB = true) : 0 ≤ x.Group ∧ x.Group ≤ 2 := by
  unfold TodoV.okB at h
  simp only [Bool.and_eq_true, decide_eq_true_eq] at h
  exact h.1
theorem todoP_no1 {ser : List Int} {legs : List LegV} {todo : List TodoV} (h : ((todo.length : Int) = 0 ∨ 3 < (todo.length : Int) + legs.length) ∨ ((legs.length : Int) = 0 ∧ ¬(todo.length : Int) = 1)) : ¬todoP ser legs todo := by
  rintro ⟨h1, h2, h3, _⟩
  rw [ne_eq, nil_iff] at h1
  rw [nil_iff] at h3
  omega
theorem bne_ii {p q : Prop} [Decidable p] [Decidable q] : (decide p != decide q) = false ↔ (p ↔ q) := by
  by_cases hp : p <;> by_cases hq : q <;> simp [hp, hq]
theorem bne_it {p q : Prop} [Decidable p] [Decidable q] : (decide p != decide q) = true ↔ ¬(p ↔ q) := by
  by_cases hp : p <;> by_cases hq : q <;> simp [hp, hq]
theorem tdOk_iff {legs : List LegV} {x : TodoV} : tdOk legs x ↔ ((0 ≤ x.Group ∧ x.Group ≤ 2) ∧ opB x.Op.k x.Op.key x.Op.f x.Op.t x.Op.d = true) ∧ (x.Group = 0 ↔ (legs.length : Int) = 0) := by
  unfold tdOk TodoV.okB
  rw [nil_iff]
  simp only [Bool.and_eq_true, decide_eq_true_eq]
theorem ifB_dec {p q : Prop} [Decidable q] (h : p ↔ q) : ifB p = decide q := by
  by_cases hq : q
  · rw [ifB_t (h.2 hq), decide_eq_true hq]
  · rw [ifB_f (fun hp => hq (h.1 hp)), decide_eq_false hq]
theorem todoP_last {ser : List Int} {legs : List LegV} {todo : List TodoV} (h : (¬(todo.length : Int) = 0 ∧ (todo.length : Int) + legs.length ≤ 3) ∧ (¬(legs.length : Int) = 0 ∨ (todo.length : Int) = 1)) (h2 : ∀ x ∈ todo, tdOk legs x) :
    todoP ser legs todo ↔ 1 ≤ ser.getD (todo.getD 0 default).Group.toNat 0 := by
  unfold todoP
  rw [ne_eq, nil_iff, nil_iff]
  exact ⟨fun hh => hh.2.2.2.2, fun hh => ⟨by omega, by omega, by omega, fun x hx => by have := h2 x hx; unfold tdOk at this; rwa [nil_iff] at this, hh⟩⟩
instance g74 (a0 : Int) (a1 : List Int) (a2 : Bool) (a3 : Int) (a4 : ByteArray) (a5 a6 : Int) (a7 : ByteArray) (a8 : Int) (a9 : List LegV) (a10 : List TodoV) : Fs 74 [⟨.agg, [.int .i64 a0, .ro 1 (rowsI a1), .bool a2, .int .i64 a3, .str a4, .int .i64 a5, .int .i64 a6, .str a7, .int .i64 a8, .ro 11 (rows a9), .ro 6 (rows a10)]⟩] (a1.length = 3 ∧ a9.length ≤ 1048576 ∧ a10.length ≤ 1048576 ∧ ∀ e ∈ a10, e.fit) (bl (ifB (todoP a1 a9 a10))) := by
  refine F_of m74 rfl fun hyp => ?_
  obtain ⟨q0, q1, q2, q3⟩ := id hyp
  repeat' (first | (with_reducible intro h; (try simp only [h]); (try simp only [HS] at h)) | ((with_reducible apply scEnd_of); exact rfl; exact rfl) | ((with_reducible apply ScW_of); rfl; rfl; trivial) | with_reducible first | apply Br_of | refine O1 ?_ | refine O2 ?_ | refine O3 ?_ | refine O4 ?_ | refine O5 ?_ | refine CI ?_ | simp (maxSteps := 1000000) (disch := omega) only [go_sem])
  · rw [ifB_f (todoP_no1 h)]
  · have hl := h
    refine LoopK_of (α := Nat) (fun p => ⟨[(32, i64 p), (31, i64 a10.length), (30, ⟨.one, [.ro 6 (rows a10)]⟩), (29, ⟨.one, [.ptr 1 10]⟩), (1, ⟨.one, [.ptr 1 0]⟩)], [(1, [.int .i64 a0, .ro 1 (rowsI a1), .bool a2, .int .i64 a3, .str a4, .int .i64 a5, .int .i64 a6, .str a7, .int .i64 a8, .ro 11 (rows a9), .ro 6 (rows a10)])], [(0, ⟨.agg, [.int .i64 a0, .ro 1 (rowsI a1), .bool a2, .int .i64 a3, .str a4, .int .i64 a5, .int .i64 a6, .str a7, .int .i64 a8, .ro 11 (rows a9), .ro 6 (rows a10)]⟩)]⟩) (fun p => p ≤ a10.length ∧ ∀ x ∈ a10.take p, tdOk a9 x) (fun p => a10.length - p) 0 rfl ⟨Nat.zero_le _, by simp⟩ ?_
    rintro i ⟨h1, h2⟩
    by_cases hi : i < a10.length
    · have hs := q3 _ (getD_mem default hi)
      simp only [TodoV.fit] at hs
      repeat' (first | (with_reducible intro h; (try simp only [h]); (try simp only [HS] at h)) | ((with_reducible apply scEnd_of); exact rfl; exact rfl) | ((with_reducible apply ScW_of); rfl; rfl; trivial) | with_reducible first | apply Br_of | refine O1 ?_ | refine O2 ?_ | refine O3 ?_ | refine O4 ?_ | refine O5 ?_ | refine CI ?_ | simp (maxSteps := 1000000) (disch := omega) only [go_sem])
      all_goals (try (exfalso; omega))
      · rw [ifB_f]; intro hp; have := tdOk_iff.1 (hp.2.2.2.1 _ (getD_mem default hi)); rcases h with (h | h) | h
        · omega
        · rw [h] at this; simp at this
        · exact bne_it.1 h this.2
      · exact LoopQ_of (i + 1) rfl ⟨by omega, tdOk_take hi h2 (tdOk_iff.2 ⟨h.1, bne_ii.1 h.2⟩)⟩ (by omega)
    · have hall : ∀ x ∈ a10, tdOk a9 x := by rw [List.take_of_length_le (by omega)] at h2; exact h2
      have hg := TodoV.ok_grp (hall _ (getD_mem default (show 0 < a10.length by omega))).1
      repeat' (first | (with_reducible intro h; (try simp only [h]); (try simp only [HS] at h)) | ((with_reducible apply scEnd_of); exact rfl; exact rfl) | ((with_reducible apply ScW_of); rfl; rfl; trivial) | with_reducible first | apply Br_of | refine O1 ?_ | refine O2 ?_ | refine O3 ?_ | refine O4 ?_ | refine O5 ?_ | refine CI ?_ | simp (maxSteps := 1000000) (disch := omega) only [go_sem])
      all_goals (try (exfalso; omega))
      rw [ifB_dec (todoP_last hl hall)]
instance g71 (x : Int) : Fs 71 [i64 x] True (bl (!(decide (0 ≤ x) && decide (x ≤ 1000000)))) := by
  refine F_of m71 rfl fun hyp => ?_
  repeat' (first | (with_reducible intro h; (try simp only [h]); (try simp only [HS] at h)) | ((with_reducible apply scEnd_of); exact rfl; exact rfl) | ((with_reducible apply ScW_of); rfl; rfl; trivial) | with_reducible first | apply Br_of | refine O1 ?_ | refine O2 ?_ | refine O3 ?_ | refine O4 ?_ | refine O5 ?_ | refine CI ?_ | simp (maxSteps := 1000000) (disch := omega) only [go_sem])
theorem any_ser : ∀ l : List Int, (l.any fun x => !(decide (0 ≤ x) && decide (x ≤ 1000000))) = !serB l
  | [] => rfl
  | x :: t => by rw [List.any_cons, any_ser t]; simp [serB]
theorem rtP_idle {id : Int} {ser : List Int} {c : CallV} {b : Int} {legs : List LegV} {todo : List TodoV} (h1 : (1 ≤ id ∧ id ≤ 4) ∧ (ser.length : Int) = 3) (h2 : serB ser = true) (h3 : 0 ≤ b ∧ b ≤ 1000000) :
    rtP id ser false c b legs todo ↔ c = CallV.zero ∧ b = 0 ∧ legs = [] ∧ todo = [] := by
  unfold rtP
  exact ⟨fun h => by rcases h.2.2.2.2 with h | h; exact h.2; exact absurd h.1 (by simp), fun h => ⟨h1.1, by omega, h3, h2, .inl ⟨rfl, h⟩⟩⟩
theorem rtP_busy {id : Int} {ser : List Int} {c : CallV} {b : Int} {legs : List LegV} {todo : List TodoV} (h1 : (1 ≤ id ∧ id ≤ 4) ∧ (ser.length : Int) = 3) (h2 : serB ser = true) (h3 : 0 ≤ b ∧ b ≤ 1000000) :
    rtP id ser true c b legs todo ↔ callB c.Kind c.Key c.From c.To c.Data = true ∧ legs.all LegV.okB = true ∧ todoP ser legs todo := by
  unfold rtP
  exact ⟨fun h => by rcases h.2.2.2.2 with h | h; exact absurd h.1 (by simp); exact h.2, fun h => ⟨h1.1, by omega, h3, h2, .inr ⟨rfl, h⟩⟩⟩
instance g22 (a0 : Int) (a1 : List Int) (a2 : Bool) (a3 : Int) (a4 : ByteArray) (a5 a6 : Int) (a7 : ByteArray) (a8 : Int) (a9 : List LegV) (a10 : List TodoV) : Fs 22 [⟨.agg, [.int .i64 a0, .ro 1 (rowsI a1), .bool a2, .int .i64 a3, .str a4, .int .i64 a5, .int .i64 a6, .str a7, .int .i64 a8, .ro 11 (rows a9), .ro 6 (rows a10)]⟩] (a1.length ≤ 9223372036854775807 ∧ a4.size ≤ 9223372036854775807 ∧ a9.length ≤ 1048576 ∧ a10.length ≤ 1048576 ∧ (∀ e ∈ a9, e.fit) ∧ (∀ e ∈ a10, e.fit)) (bl (ifB (rtP a0 a1 a2 ⟨a3, a4, a5, a6, a7⟩ a8 a9 a10))) := by
  refine F_of m22 rfl fun hyp => ?_
  obtain ⟨q0, q1, q2, q3, q4, q5⟩ := id hyp
  repeat' (first | (with_reducible intro h; (try simp only [h]); (try simp only [HS] at h)) | ((with_reducible apply scEnd_of); exact rfl; exact rfl) | ((with_reducible apply ScW_of); rfl; rfl; trivial) | with_reducible first | apply Br_of | refine O1 ?_ | refine O2 ?_ | refine O3 ?_ | refine O4 ?_ | refine O5 ?_ | refine CI ?_ | simp (maxSteps := 1000000) (disch := omega) only [go_sem])
  · rw [any_ser] at h; rw [ifB_f]; rintro ⟨h1, h2, h3, h4, _⟩; simp only [h4, Bool.not_true, Bool.false_eq_true, or_false] at h; omega
  · rename_i hh
    rw [any_ser, Bool.not_eq_false'] at hh
    subst h
    simp only [Prod.mk.injEq, SV.mk.injEq, List.cons.injEq, Cell.bool.injEq, and_true, true_and]
    rw [Bool.eq_iff_iff, ifB_iff, rtP_idle hh.1.1 hh.1.2 hh.2]
    simp only [CallV.zero, CallV.mk.injEq, nil_iff, Bool.and_eq_true, decide_eq_true_eq]
    grind
  · rename_i hh
    rw [any_ser, Bool.not_eq_false'] at hh
    subst h
    simp only [Prod.mk.injEq, SV.mk.injEq, List.cons.injEq, Cell.bool.injEq, and_true, true_and]
    rw [Bool.eq_iff_iff, ifB_iff, rtP_busy hh.1.1 hh.1.2 hh.2]
    simp only [Bool.and_eq_true, decide_eq_true_eq, ifB_iff]
    exact ⟨fun h => ⟨h.1.1, h.1.2.2, h.2⟩, fun h => ⟨⟨h.1, by have := h.2.2.2.1; omega, h.2.1⟩, h.2.2⟩⟩
theorem serB_mem {l : List Int} (h : serB l = true) {i : Nat} (hi : i < l.length) : 0 ≤ l.getD i 0 ∧ l.getD i 0 ≤ 1000000 := by
  unfold serB at h
  rw [List.all_eq_true] at h
  have := h _ (getD_mem 0 hi)
  simpa using this
theorem serB_step {l : List Int} {i : Nat} (hi : i < l.length) (h : serB (l.take i) = true) (h2 : 0 ≤ l.getD i 0 ∧ l.getD i 0 ≤ 1000000) : serB (l.take (i + 1)) = true := by
  rw [take_snocZ 0 hi]
  unfold serB at h ⊢
  rw [List.all_append, h]
  simp only [List.all_cons, List.all_nil, Bool.and_true, Bool.true_and, Bool.and_eq_true, decide_eq_true_eq]
  exact h2
instance g20 (a0 : Int) (a1 : List Int) (a2 : Bool) (a3 : Int) (a4 : ByteArray) (a5 a6 : Int) (a7 : ByteArray) (a8 : Int) (a9 : List LegV) (a10 : List TodoV) : Fs 20 [⟨.agg, [.int .i64 a0, .ro 1 (rowsI a1), .bool a2, .int .i64 a3, .str a4, .int .i64 a5, .int .i64 a6, .str a7, .int .i64 a8, .ro 11 (rows a9), .ro 6 (rows a10)]⟩] (a1.length ≤ 9223372036854775807 ∧ a4.size ≤ 9223372036854775807 ∧ a9.length ≤ 1048576 ∧ a10.length ≤ 1048576 ∧ (∀ e ∈ a9, e.fit) ∧ (∀ e ∈ a10, e.fit)) (bl (ifB (rtP a0 a1 a2 ⟨a3, a4, a5, a6, a7⟩ a8 a9 a10))) := by
  refine F_of m20 rfl fun hyp => ?_
  obtain ⟨q0, q1, q2, q3, q4, q5⟩ := id hyp
  repeat' (first | (with_reducible intro h; (try simp only [h]); (try simp only [HS] at h)) | ((with_reducible apply scEnd_of); exact rfl; exact rfl) | ((with_reducible apply ScW_of); rfl; rfl; trivial) | with_reducible first | apply Br_of | refine O1 ?_ | refine O2 ?_ | refine O3 ?_ | refine O4 ?_ | refine O5 ?_ | refine CI ?_ | simp (maxSteps := 1000000) (disch := omega) only [go_sem])
  · rw [ifB_f]; rintro ⟨h1, h2, h3, h4, _⟩; omega
  · have hh := h
    refine LoopK_of (α := Nat) (fun p => ⟨[(3, i64 p), (1, ⟨.one, [.ptr 1 0]⟩)], [(1, [.int .i64 a0, .ro 1 (rowsI a1), .bool a2, .int .i64 a3, .str a4, .int .i64 a5, .int .i64 a6, .str a7, .int .i64 a8, .ro 11 (rows a9), .ro 6 (rows a10)])], [(0, ⟨.agg, [.int .i64 a0, .ro 1 (rowsI a1), .bool a2, .int .i64 a3, .str a4, .int .i64 a5, .int .i64 a6, .str a7, .int .i64 a8, .ro 11 (rows a9), .ro 6 (rows a10)]⟩)]⟩) (fun p => p ≤ a1.length ∧ serB (a1.take p) = true) (fun p => a1.length - p) 0 rfl ⟨Nat.zero_le _, rfl⟩ ?_
    rintro i ⟨h1, h2⟩
    by_cases hi : i < a1.length
    · repeat' (first | (with_reducible intro h; (try simp only [h]); (try simp only [HS] at h)) | ((with_reducible apply scEnd_of); exact rfl; exact rfl) | ((with_reducible apply ScW_of); rfl; rfl; trivial) | with_reducible first | apply Br_of | refine O1 ?_ | refine O2 ?_ | refine O3 ?_ | refine O4 ?_ | refine O5 ?_ | refine CI ?_ | simp (maxSteps := 1000000) (disch := omega) only [go_sem])
      all_goals (try (exfalso; omega))
      · rw [ifB_f]; rintro ⟨_, _, _, h4, _⟩; have := serB_mem h4 hi; omega
      · exact LoopQ_of (i + 1) rfl ⟨by omega, serB_step hi h2 (by omega)⟩ (by omega)
    · have hser : serB a1 = true := by rw [List.take_of_length_le (by omega)] at h2; exact h2
      repeat' (first | (with_reducible intro h; (try simp only [h]); (try simp only [HS] at h)) | ((with_reducible apply scEnd_of); exact rfl; exact rfl) | ((with_reducible apply ScW_of); rfl; rfl; trivial) | with_reducible first | apply Br_of | refine O1 ?_ | refine O2 ?_ | refine O3 ?_ | refine O4 ?_ | refine O5 ?_ | refine CI ?_ | simp (maxSteps := 1000000) (disch := omega) only [go_sem])
      all_goals (try (exfalso; omega))
      · subst h
        simp only [Prod.mk.injEq, SV.mk.injEq, List.cons.injEq, Cell.bool.injEq, and_true, true_and]
        rw [Bool.eq_iff_iff, ifB_iff, rtP_idle hh.1 hser hh.2]
        simp only [CallV.zero, CallV.mk.injEq, nil_iff, Bool.and_eq_true, decide_eq_true_eq]
        grind
      · have hq := h; obtain rfl : a2 = true := by assumption
        rw [ifB_f]; rw [rtP_busy hh.1 hser hh.2]; rintro ⟨c1, c2, hp⟩
        simp only at c1
        have p0 := hp.1; have p1 := hp.2.1; have p2 := hp.2.2.1; have p3 := hp.2.2.2.1
        rw [ne_eq, nil_iff] at p0; rw [nil_iff] at p2
        rcases hq with (h | h) | h
        · rw [c1] at h; simp at h
        · omega
        · omega
      · have hq := h; obtain rfl : a2 = true := by assumption
        rw [ifB_f]; rw [rtP_busy hh.1 hser hh.2]; rintro ⟨c1, c2, hp⟩
        simp only at c1
        have p0 := hp.1; have p1 := hp.2.1; have p2 := hp.2.2.1; have p3 := hp.2.2.2.1
        rw [ne_eq, nil_iff] at p0; rw [nil_iff] at p2
        have := (p3 _ (getD_mem default (show 0 < a10.length by omega))).2
        rw [nil_iff] at this
        omega
      · have ht := h
        have hf : (callB a3 a4 a5 a6 a7 = true ∧ ¬(a10.length : Int) = 0) ∧ (a10.length : Int) + a9.length ≤ 3 := by assumption
        have hc := hf.1.1
        have hl : ¬(a10.length : Int) = 0 ∧ (a10.length : Int) + a9.length ≤ 3 := ⟨hf.1.2, hf.2⟩
        refine LoopK_of (α := Nat) (fun p => ⟨[(4, i64 p), (1, ⟨.one, [.ptr 1 0]⟩)], [(1, [.int .i64 a0, .ro 1 (rowsI a1), .bool a2, .int .i64 a3, .str a4, .int .i64 a5, .int .i64 a6, .str a7, .int .i64 a8, .ro 11 (rows a9), .ro 6 (rows a10)])], [(0, ⟨.agg, [.int .i64 a0, .ro 1 (rowsI a1), .bool a2, .int .i64 a3, .str a4, .int .i64 a5, .int .i64 a6, .str a7, .int .i64 a8, .ro 11 (rows a9), .ro 6 (rows a10)]⟩)]⟩) (fun p => p ≤ a10.length ∧ ∀ x ∈ a10.take p, tdOk a9 x) (fun p => a10.length - p) 0 rfl ⟨Nat.zero_le _, by simp⟩ ?_
        rintro j ⟨j1, j2⟩
        by_cases hj : j < a10.length
        · have hs := q5 _ (getD_mem default hj)
          simp only [TodoV.fit] at hs
          repeat' (first | (with_reducible intro h; (try simp only [h]); (try simp only [HS] at h)) | ((with_reducible apply scEnd_of); exact rfl; exact rfl) | ((with_reducible apply ScW_of); rfl; rfl; trivial) | with_reducible first | apply Br_of | refine O1 ?_ | refine O2 ?_ | refine O3 ?_ | refine O4 ?_ | refine O5 ?_ | refine CI ?_ | simp (maxSteps := 1000000) (disch := omega) only [go_sem])
          all_goals (try (exfalso; omega))
          · have hq := h; obtain rfl : a2 = true := by assumption
            rw [ifB_f]; rw [rtP_busy hh.1 hser hh.2]; rintro ⟨c1, c2, hp⟩
            simp only at c1
            have p0 := hp.1; have p1 := hp.2.1; have p2 := hp.2.2.1; have p3 := hp.2.2.2.1
            rw [ne_eq, nil_iff] at p0; rw [nil_iff] at p2
            have := tdOk_iff.1 (p3 _ (getD_mem default hj))
            rcases hq with (h | h) | h
            · omega
            · omega
            · rw [h] at this; simp at this
          · refine LoopQ_of (j + 1) rfl ⟨by omega, tdOk_take hj j2 (tdOk_iff.2 ⟨⟨h.1.1, h.2⟩, ?_⟩)⟩ (by omega)
            have : (a10.length : Int) = 1 → a10.getD j default = a10.getD 0 default := fun hq => by rw [show j = 0 by omega]
            have h12 := h.1.2
            constructor
            · omega
            · intro hz; rcases ht with ht | ht
              · omega
              · rw [this ht.1]; exact ht.2
        · have hall : ∀ x ∈ a10, tdOk a9 x := by rw [List.take_of_length_le (by omega)] at j2; exact j2
          have hg := TodoV.ok_grp (hall _ (getD_mem default (show 0 < a10.length by omega))).1
          repeat' (first | (with_reducible intro h; (try simp only [h]); (try simp only [HS] at h)) | ((with_reducible apply scEnd_of); exact rfl; exact rfl) | ((with_reducible apply ScW_of); rfl; rfl; trivial) | with_reducible first | apply Br_of | refine O1 ?_ | refine O2 ?_ | refine O3 ?_ | refine O4 ?_ | refine O5 ?_ | refine CI ?_ | simp (maxSteps := 1000000) (disch := omega) only [go_sem])
          all_goals (try (exfalso; omega))
          refine LoopK_of (α := Nat) (fun p => ⟨[(5, i64 p), (1, ⟨.one, [.ptr 1 0]⟩)], [(1, [.int .i64 a0, .ro 1 (rowsI a1), .bool a2, .int .i64 a3, .str a4, .int .i64 a5, .int .i64 a6, .str a7, .int .i64 a8, .ro 11 (rows a9), .ro 6 (rows a10)])], [(0, ⟨.agg, [.int .i64 a0, .ro 1 (rowsI a1), .bool a2, .int .i64 a3, .str a4, .int .i64 a5, .int .i64 a6, .str a7, .int .i64 a8, .ro 11 (rows a9), .ro 6 (rows a10)]⟩)]⟩) (fun p => p ≤ a9.length ∧ (a9.take p).all LegV.okB = true) (fun p => a9.length - p) 0 rfl ⟨Nat.zero_le _, rfl⟩ ?_
          rintro k ⟨k1, k2⟩
          by_cases hk : k < a9.length
          · have hs := q4 _ (getD_mem default hk)
            simp only [LegV.fit] at hs
            repeat' (first | (with_reducible intro h; (try simp only [h]); (try simp only [HS] at h)) | ((with_reducible apply scEnd_of); exact rfl; exact rfl) | ((with_reducible apply ScW_of); rfl; rfl; trivial) | with_reducible first | apply Br_of | refine O1 ?_ | refine O2 ?_ | refine O3 ?_ | refine O4 ?_ | refine O5 ?_ | refine CI ?_ | simp (maxSteps := 1000000) (disch := omega) only [go_sem])
            all_goals (try (exfalso; omega))
            · have hq := h; obtain rfl : a2 = true := by assumption
              rw [ifB_f]; rw [rtP_busy hh.1 hser hh.2]; rintro ⟨c1, c2, hp⟩
              simp only at c1
              have p0 := hp.1; have p1 := hp.2.1; have p2 := hp.2.2.1; have p3 := hp.2.2.2.1
              rw [ne_eq, nil_iff] at p0; rw [nil_iff] at p2
              rw [List.all_eq_true] at c2
              have := c2 _ (getD_mem default hk)
              rw [hq] at this; simp at this
            · exact LoopQ_of (k + 1) rfl ⟨by omega, by rw [take_snocZ default hk, List.all_append, k2]; simpa using h⟩ (by omega)
          · have hlegs : a9.all LegV.okB = true := by rw [List.take_of_length_le (by omega)] at k2; exact k2
            repeat' (first | (with_reducible intro h; (try simp only [h]); (try simp only [HS] at h)) | ((with_reducible apply scEnd_of); exact rfl; exact rfl) | ((with_reducible apply ScW_of); rfl; rfl; trivial) | with_reducible first | apply Br_of | refine O1 ?_ | refine O2 ?_ | refine O3 ?_ | refine O4 ?_ | refine O5 ?_ | refine CI ?_ | simp (maxSteps := 1000000) (disch := omega) only [go_sem])
            all_goals (try (exfalso; omega))
            obtain rfl : a2 = true := by assumption
            simp only [Prod.mk.injEq, SV.mk.injEq, List.cons.injEq, Cell.bool.injEq, and_true, true_and]
            rw [Bool.eq_iff_iff, ifB_iff, rtP_busy hh.1 hser hh.2, todoP_last ⟨hl, by omega⟩ hall, decide_eq_true_eq]
            exact ⟨fun h => ⟨hc, hlegs, h⟩, fun h => h.2.2⟩
theorem mL_len {α : Type} {f : α → Int} (hf : ∀ x, 0 ≤ f x) (l : List α) : (l.length : Int) ≤ mL f l := by have := mS_nn hf l; unfold mL; omega
instance g6 (a0 : Int) (a1 : List Int) (a2 : Bool) (a3 : Int) (a4 : ByteArray) (a5 a6 : Int) (a7 : ByteArray) (a8 : Int) (a9 : List LegV) (a10 : List TodoV) : Fs 6 [⟨.agg, [.int .i64 a0, .ro 1 (rowsI a1), .bool a2, .int .i64 a3, .str a4, .int .i64 a5, .int .i64 a6, .str a7, .int .i64 a8, .ro 11 (rows a9), .ro 6 (rows a10)]⟩] (a1.length ≤ 9223372036854775807 ∧ a4.size ≤ 9223372036854775807 ∧ a7.size ≤ 9223372036854775807 ∧ a9.length ≤ 9223372036854775807 ∧ (∀ e ∈ a9, e.fit) ∧ a10.length ≤ 9223372036854775807 ∧ (∀ e ∈ a10, e.fit)) (bl true) := by
  refine F_of m6 rfl fun hyp => ?_
  obtain ⟨q0, q1, q2, q3, q4, q5, q6⟩ := id hyp
  have rt := szI_cases ((a1.length : Int) + (a4.size : Int) + (a7.size : Int) + mL LegV.mz a9 + mL TodoV.mz a10) 1048576
  have n1 := mL_len LegV.mz_nn a9
  have n2 := mL_len TodoV.mz_nn a10
  by_cases hz : (a1.length : Int) + (a4.size : Int) + (a7.size : Int) + mL LegV.mz a9 + mL TodoV.mz a10 ≤ 1048576
  · repeat' (first | (with_reducible intro h; (try simp only [h]); (try simp only [HS] at h)) | ((with_reducible apply scEnd_of); exact rfl; exact rfl) | ((with_reducible apply ScW_of); rfl; rfl; trivial) | with_reducible first | apply Br_of | refine O1 ?_ | refine O2 ?_ | refine O3 ?_ | refine O4 ?_ | refine O5 ?_ | refine CI ?_ | simp (maxSteps := 1000000) (disch := omega) only [go_sem])
    all_goals (try (exfalso; omega))
    all_goals (exfalso; revert h; simp)
  · repeat' (first | (with_reducible intro h; (try simp only [h]); (try simp only [HS] at h)) | ((with_reducible apply scEnd_of); exact rfl; exact rfl) | ((with_reducible apply ScW_of); rfl; rfl; trivial) | with_reducible first | apply Br_of | refine O1 ?_ | refine O2 ?_ | refine O3 ?_ | refine O4 ?_ | refine O5 ?_ | refine CI ?_ | simp (maxSteps := 1000000) (disch := omega) only [go_sem])
    all_goals (try (exfalso; omega))
end Go.Eng
