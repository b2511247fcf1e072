/-
  Contracts of functions of the program, its reference and the laws: what each returns; the conditions stand in each theorem.
-/
import Derived.Test.YtlpapgmbknkmaaaFnA
set_option linter.unusedSimpArgs false
set_option linter.unusedVariables false
set_option maxRecDepth 100000
set_option maxHeartbeats 2000000
namespace Go.Eng
open Go Go.Proofs

/-- Points as a list's rows. -/
def rowsP (l : List Pt) : List (List D) := l.map fun p => [.int .i64 p.1, .int .i64 p.2]
@[go_sem] theorem rowsP_length (l : List Pt) : (rowsP l).length = l.length := by simp [rowsP]
@[simp] theorem rowsP_inj {a b : List Pt} : rowsP a = rowsP b ↔ a = b := ⟨fun h => map_inj (by rintro ⟨a, b⟩ ⟨c, d⟩ h; simpa using h) h, fun h => by rw [h]⟩
theorem rowsP_snoc (l : List Pt) (a b : Int) : rowsP l ++ [[.int .i64 a, .int .i64 b]] = rowsP (l ++ [(a, b)]) := by simp [rowsP]
theorem getD_map1 {l : List Pt} {i : Nat} (h : i < l.length) : (l.map (·.1)).getD i 0 = l[i].1 := by simp [List.getD, h]
theorem getD_map2 {l : List Pt} {i : Nat} (h : i < l.length) : (l.map (·.2)).getD i 0 = l[i].2 := by simp [List.getD, h]
theorem rowsP_at {l : List Pt} {i : Nat} (h : i < l.length) : ((rowsP l).drop i).flatten = .int .i64 ((l.map (·.1)).getD i 0) :: .int .i64 ((l.map (·.2)).getD i 0) :: rowsT (rowsP l) i := by
  have h' : i < (rowsP l).length := by rw [rowsP_length]; exact h
  rw [List.drop_eq_getElem_cons h', List.flatten_cons, getD_map1 h, getD_map2 h]
  simp [rowsP, rowsT]
theorem rowsP_get {l : List Pt} {i : Nat} (h : i < l.length) : (rowsP l)[i]? = some [.int .i64 ((l.map (·.1)).getD i 0), .int .i64 ((l.map (·.2)).getD i 0)] := by
  rw [getD_map1 h, getD_map2 h]; simp [rowsP, h]
def ptsB (l : List Pt) : Bool := decide (ptsOk l)
theorem ptsB_yes {l : List Pt} (h : ptsOk l) : ptsB l = true := decide_eq_true h
theorem ptsB_no {l : List Pt} (h : ¬ptsOk l) : ptsB l = false := decide_eq_false h
theorem ptsB_iff {l : List Pt} : ptsB l = true ↔ ptsOk l := decide_eq_true_iff
theorem ptsB_niff {l : List Pt} : ptsB l = false ↔ ¬ptsOk l := decide_eq_false_iff_not
theorem ptsOk_no1 {l : List Pt} {i : Nat} (hi : i < l.length) (h : (l.map (·.1)).getD i 0 < 0 ∨ 1099511627776 < (l.map (·.1)).getD i 0 ∨ (l.map (·.2)).getD i 0 < -1099511627776 ∨ 1099511627776 < (l.map (·.2)).getD i 0 ∨ (0 < i ∧ (l.map (·.1)).getD i 0 ≤ (l.map (·.1)).getD (i - 1) 0)) : ¬ptsOk l := by
  intro hr
  have h1 := hr.1 i hi
  have h2 := hr.2.1 i hi
  omega
theorem ptsB_end {l : List Pt} (h2 : riseTo (l.map (·.1)) l.length) (h3 : valTo (l.map (·.2)) l.length) : ptsB l = decide ((l.length : Int) ≤ 60) := by
  by_cases h : l.length ≤ 60
  · rw [ptsB_yes ⟨h2, h3, h⟩, decide_eq_true (by omega)]
  · rw [ptsB_no fun hh => h hh.2.2, decide_eq_false (by omega)]
theorem timesS_le (l : List Int) : (timesS l).size ≤ 420 := by
  by_cases h : riseOk l
  · rw [(timesS_of h).2.1]
    have := encL_len (f := tNum l) (n := l.length) fun i hi => tNum_ok h.1 hi
    have := h.2
    unfold timesL; omega
  · rw [timesS_no h]; exact Nat.zero_le _
theorem valuesS_le (l : List Int) : (valuesS l).size ≤ 420 := by
  by_cases h : valOk l
  · rw [(valuesS_of h).2.1]
    have := encL_len (f := vNum l) (n := l.length) fun i hi => vNum_ok h.1 hi
    have := h.2
    unfold valuesL; omega
  · rw [valuesS_no h]; exact Nat.zero_le _
theorem unf_size (s : ByteArray) : (unfS s).1.size ≤ 2000 := by
  rcases unf_cases s with ⟨h, _⟩ | ⟨b, h, _, h2, _⟩
  · rw [h]; exact Nat.zero_le _
  · rw [h]; exact h2
theorem extract_le (s : ByteArray) (i j : Nat) : (s.extract i j).size ≤ s.size := by
  rw [← bytes_length, bytes_extract, List.length_drop, List.length_take, bytes_length]; omega

theorem g128 (l : List Pt) (hyp : l.length ≤ 1000000) : Good Try.prog 128 [⟨.one, [.ro 2 (rowsP l)]⟩] [] (⟨.one, [.bool (ptsB l)]⟩) [⟨.one, [.ro 2 (rowsP l)]⟩] [] := by
  refine Good_of (E := envOf [(32, c32)]) (envOk_of ⟨ctr32, trivial⟩) Try.func128 m128 rfl ?_
  simp (maxSteps := 1000000) (disch := omega) only [go_sem, wI, wB, x128, r128_0, r128_1, r128_2, r128_3, r128_4v, r128_4t, r128_5, r128_6, r128_7, Int.toNat_natCast, natS1, natS2, rowsI_at, rowsI_at0, rowsI_get, rowsI_snoc, rowsP_at, rowsP_get, rowsP_snoc, Nat.mul_one, Nat.div_one, Nat.mod_one]
  refine LoopK_of (α := Nat) (fun p => ⟨[(7, i64 p), (6, i64 l.length), (5, ⟨.one, [.ro 2 (rowsP l)]⟩), (0, ⟨.one, [.ro 2 (rowsP l)]⟩)], [], [(0, ⟨.one, [.ro 2 (rowsP l)]⟩)]⟩) (fun p => p ≤ l.length ∧ riseTo (l.map (·.1)) p ∧ valTo (l.map (·.2)) p) (fun p => l.length - p) 0 rfl ⟨Nat.zero_le _, fun i hi => absurd hi (Nat.not_lt_zero i), fun i hi => absurd hi (Nat.not_lt_zero i)⟩ ?_
  rintro i ⟨h1, h2, h3⟩
  simp (maxSteps := 1000000) (disch := omega) only [go_sem, wI, wB, x128, r128_0, r128_1, r128_2, r128_3, r128_4v, r128_4t, r128_5, r128_6, r128_7, Int.toNat_natCast, natS1, natS2, rowsI_at, rowsI_at0, rowsI_get, rowsI_snoc, rowsP_at, rowsP_get, rowsP_snoc, Nat.mul_one, Nat.div_one, Nat.mod_one]
  repeat' (first | ((with_reducible apply scEnd_of); exact rfl; exact rfl) | ((with_reducible apply ScW_of); rfl; rfl; trivial; (intro h; try simp only [HS] at h)) | ((with_reducible apply Br_of) <;> (intro h; (try simp only [h]); (try simp only [HS] at h))) | ((with_reducible first | refine Opt_put_if ?_ ?_ | refine Opt_if ?_ ?_ | refine Opt_bind_if ?_ ?_ | refine Opt_ifb ?_ ?_); (· (first | omega | (refine ⟨?_, ?_⟩ <;> omega) | (refine ⟨?_, ?_, ?_⟩ <;> omega) | (refine ⟨rfl, ?_⟩; simp only [okBig, Bool.and_eq_true, decide_eq_true_eq]; omega) | (refine Nat.le_trans (Nat.add_le_add_left (varS_le _) _) ?_; simp only [size_strOfNums, List.length_cons, List.length_nil, rowsI_length, rowsP_length, List.length_take, List.length_map, ByteArray.size_append]; omega) | (refine ⟨rfl, ?_⟩; simp only [okBig, Bool.and_eq_true, decide_eq_true_eq, size_strOfNums, List.length_cons, List.length_nil, rowsI_length, rowsP_length, List.length_take, List.length_map, ByteArray.size_append]; omega) | (simp only [size_strOfNums, List.length_cons, List.length_nil, rowsI_length, rowsP_length, List.length_take, List.length_map, ByteArray.size_append]; omega)))) | ((with_reducible refine Opt_bind_ifn ?_ ?_); (· omega)) | simp (maxSteps := 1000000) (disch := omega) only [go_sem, wI, wB, Int.toNat_natCast, natS1, natS2, rowsI_at, rowsI_at0, rowsI_get, rowsI_snoc, rowsP_at, rowsP_get, rowsP_snoc, Nat.mul_one, Nat.div_one, Nat.mod_one])
  all_goals (try (exfalso; omega))
  all_goals first | (rw [ptsB_no (ptsOk_no1 (i := i) (by omega) (by omega))]; done) | exact LoopQ_of (i + 1) rfl ⟨by omega, riseTo_succ h2 (by omega) (by omega) (by omega), valTo_succ h3 (by omega) (by omega)⟩ (by omega) | (have e : i = l.length := (by omega); subst e; rw [ptsB_end h2 h3]) | trace_state
noncomputable def c128 : List SV → Refs → Option (SV × List SV × Refs) := ctrOf (α := (List Pt)) (fun l => l.length ≤ 1000000) (fun l => [⟨.one, [.ro 2 (rowsP l)]⟩]) (fun l => []) (fun l => ⟨.one, [.bool (ptsB l)]⟩) (fun l => [⟨.one, [.ro 2 (rowsP l)]⟩]) (fun l => [])
theorem ctr128 : Ctr Try.prog 128 c128 := ctrOf_ok k128 (fun l hyp => g128 _ hyp)
theorem c128_eq {l : List Pt} (hyp : l.length ≤ 1000000) : c128 [⟨.one, [.ro 2 (rowsP l)]⟩] [] = some (⟨.one, [.bool (ptsB l)]⟩, [⟨.one, [.ro 2 (rowsP l)]⟩], []) := ctrOf_eq (α := (List Pt)) (x := l) (by intro x y h1 h2; simp at h1 h2; first | exact h1 | (simp_all; done) | (ext <;> simp_all)) hyp

theorem g92 (l : List Pt) (hyp : l.length ≤ 1000000) : Good Try.prog 92 [⟨.one, [.ro 2 (rowsP l)]⟩] [] (⟨.one, [.str (blockS l)]⟩) [⟨.one, [.ro 2 (rowsP l)]⟩] [] := by
  refine Good_of (E := envOf [(128, c128), (57, c57), (126, c126), (127, c127), (123, c123)]) (envOk_of ⟨ctr128, ⟨ctr57, ⟨ctr126, ⟨ctr127, ⟨ctr123, trivial⟩⟩⟩⟩⟩) Try.func92 m92 rfl ?_
  simp (maxSteps := 1000000) (disch := omega) only [go_sem, wI, wB, x92, r92_0, r92_1, r92_2, r92_3, r92_4, r92_5, r92_6, r92_7, r92_8, r92_9, r92_10, Int.toNat_natCast, natS1, natS2, rowsI_at, rowsI_at0, rowsI_get, rowsI_snoc, rowsP_at, rowsP_get, rowsP_snoc, Nat.mul_one, Nat.div_one, Nat.mod_one, c128_eq, c126_eq, c127_eq]
  repeat' (first | ((with_reducible apply scEnd_of); exact rfl; exact rfl) | ((with_reducible apply ScW_of); rfl; rfl; trivial; (intro h; try simp only [HS] at h)) | ((with_reducible apply Br_of) <;> (intro h; (try simp only [h]); (try simp only [HS] at h))) | ((with_reducible first | refine Opt_put_if ?_ ?_ | refine Opt_if ?_ ?_ | refine Opt_bind_if ?_ ?_ | refine Opt_ifb ?_ ?_); (· (first | omega | (refine ⟨?_, ?_⟩ <;> omega) | (refine ⟨?_, ?_, ?_⟩ <;> omega) | (refine ⟨rfl, ?_⟩; simp only [okBig, Bool.and_eq_true, decide_eq_true_eq]; omega) | (refine Nat.le_trans (Nat.add_le_add_left (varS_le _) _) ?_; simp only [size_strOfNums, List.length_cons, List.length_nil, rowsI_length, rowsP_length, List.length_take, List.length_map, ByteArray.size_append]; omega) | (refine ⟨rfl, ?_⟩; simp only [okBig, Bool.and_eq_true, decide_eq_true_eq, size_strOfNums, List.length_cons, List.length_nil, rowsI_length, rowsP_length, List.length_take, List.length_map, ByteArray.size_append]; omega) | (simp only [size_strOfNums, List.length_cons, List.length_nil, rowsI_length, rowsP_length, List.length_take, List.length_map, ByteArray.size_append]; omega)))) | ((with_reducible refine Opt_bind_ifn ?_ ?_); (· omega)) | simp (maxSteps := 1000000) (disch := omega) only [go_sem, wI, wB, Int.toNat_natCast, natS1, natS2, rowsI_at, rowsI_at0, rowsI_get, rowsI_snoc, rowsP_at, rowsP_get, rowsP_snoc, Nat.mul_one, Nat.div_one, Nat.mod_one, c128_eq, c126_eq, c127_eq])
  · rw [blockS, if_neg]; rintro ⟨q1, q2⟩; have q3 := ptsB_yes q1; have q4 := List.length_pos_iff.2 q2; rw [q3] at h; simp at h; simp [h] at q4
  · have hok := ptsB_iff.1 h.1
    have hh := h
    have h60 := hok.2.2
    refine LoopK_of (α := Nat) (fun p => ⟨[(19, i64 p), (18, i64 l.length), (17, ⟨.one, [.ro 2 (rowsP l)]⟩), (4, ⟨.one, [.own 1 (rowsI ((l.map (·.2)).take p))]⟩), (3, ⟨.one, [.own 1 (rowsI ((l.map (·.1)).take p))]⟩), (0, ⟨.one, [.ro 2 (rowsP l)]⟩)], [], [(0, ⟨.one, [.ro 2 (rowsP l)]⟩)]⟩) (fun p => p ≤ l.length) (fun p => l.length - p) 0 rfl (Nat.zero_le _) ?_
    intro i hi
    by_cases hl : i < l.length
    · simp (maxSteps := 1000000) (disch := omega) only [go_sem, wI, wB, x92, r92_0, r92_1, r92_2, r92_3, r92_4, r92_5, r92_6, r92_7, r92_8, r92_9, r92_10, Int.toNat_natCast, natS1, natS2, rowsI_at, rowsI_at0, rowsI_get, rowsI_snoc, rowsP_at, rowsP_get, rowsP_snoc, Nat.mul_one, Nat.div_one, Nat.mod_one, c128_eq, c126_eq, c127_eq]
      repeat' (first | ((with_reducible apply scEnd_of); exact rfl; exact rfl) | ((with_reducible apply ScW_of); rfl; rfl; trivial; (intro h; try simp only [HS] at h)) | ((with_reducible apply Br_of) <;> (intro h; (try simp only [h]); (try simp only [HS] at h))) | ((with_reducible first | refine Opt_put_if ?_ ?_ | refine Opt_if ?_ ?_ | refine Opt_bind_if ?_ ?_ | refine Opt_ifb ?_ ?_); (· (first | omega | (refine ⟨?_, ?_⟩ <;> omega) | (refine ⟨?_, ?_, ?_⟩ <;> omega) | (refine ⟨rfl, ?_⟩; simp only [okBig, Bool.and_eq_true, decide_eq_true_eq]; omega) | (refine Nat.le_trans (Nat.add_le_add_left (varS_le _) _) ?_; simp only [size_strOfNums, List.length_cons, List.length_nil, rowsI_length, rowsP_length, List.length_take, List.length_map, ByteArray.size_append]; omega) | (refine ⟨rfl, ?_⟩; simp only [okBig, Bool.and_eq_true, decide_eq_true_eq, size_strOfNums, List.length_cons, List.length_nil, rowsI_length, rowsP_length, List.length_take, List.length_map, ByteArray.size_append]; omega) | (simp only [size_strOfNums, List.length_cons, List.length_nil, rowsI_length, rowsP_length, List.length_take, List.length_map, ByteArray.size_append]; omega)))) | ((with_reducible refine Opt_bind_ifn ?_ ?_); (· omega)) | simp (maxSteps := 1000000) (disch := omega) only [go_sem, wI, wB, Int.toNat_natCast, natS1, natS2, rowsI_at, rowsI_at0, rowsI_get, rowsI_snoc, rowsP_at, rowsP_get, rowsP_snoc, Nat.mul_one, Nat.div_one, Nat.mod_one, c128_eq, c126_eq, c127_eq])
      · rw [← take_snocD _ (by rw [List.length_map]; omega), ← take_snocD _ (by rw [List.length_map]; omega)]
        exact LoopQ_of (i + 1) rfl (by omega) (by omega)
      · omega
    · have e : i = l.length := by omega
      subst e
      rw [List.take_of_length_le (by rw [List.length_map]; omega), List.take_of_length_le (by rw [List.length_map]; omega)]
      have z1 := varS_le l.length
      have z2 := timesS_le (l.map (·.1))
      have z3 := valuesS_le (l.map (·.2))
      have z4 : (l.map (·.1)).length ≤ 1000000 := by rw [List.length_map]; omega
      have z5 : (l.map (·.2)).length ≤ 1000000 := by rw [List.length_map]; omega
      simp (maxSteps := 1000000) (disch := omega) only [go_sem, wI, wB, x92, r92_0, r92_1, r92_2, r92_3, r92_4, r92_5, r92_6, r92_7, r92_8, r92_9, r92_10, Int.toNat_natCast, natS1, natS2, rowsI_at, rowsI_at0, rowsI_get, rowsI_snoc, rowsP_at, rowsP_get, rowsP_snoc, Nat.mul_one, Nat.div_one, Nat.mod_one, c128_eq, c126_eq, c127_eq]
      repeat' (first | ((with_reducible apply scEnd_of); exact rfl; exact rfl) | ((with_reducible apply ScW_of); rfl; rfl; trivial; (intro h; try simp only [HS] at h)) | ((with_reducible apply Br_of) <;> (intro h; (try simp only [h]); (try simp only [HS] at h))) | ((with_reducible first | refine Opt_put_if ?_ ?_ | refine Opt_if ?_ ?_ | refine Opt_bind_if ?_ ?_ | refine Opt_ifb ?_ ?_); (· (first | omega | (refine ⟨?_, ?_⟩ <;> omega) | (refine ⟨?_, ?_, ?_⟩ <;> omega) | (refine ⟨rfl, ?_⟩; simp only [okBig, Bool.and_eq_true, decide_eq_true_eq]; omega) | (refine Nat.le_trans (Nat.add_le_add_left (varS_le _) _) ?_; simp only [size_strOfNums, List.length_cons, List.length_nil, rowsI_length, rowsP_length, List.length_take, List.length_map, ByteArray.size_append]; omega) | (refine ⟨rfl, ?_⟩; simp only [okBig, Bool.and_eq_true, decide_eq_true_eq, size_strOfNums, List.length_cons, List.length_nil, rowsI_length, rowsP_length, List.length_take, List.length_map, ByteArray.size_append]; omega) | (simp only [size_strOfNums, List.length_cons, List.length_nil, rowsI_length, rowsP_length, List.length_take, List.length_map, ByteArray.size_append]; omega)))) | ((with_reducible refine Opt_bind_ifn ?_ ?_); (· omega)) | simp (maxSteps := 1000000) (disch := omega) only [go_sem, wI, wB, Int.toNat_natCast, natS1, natS2, rowsI_at, rowsI_at0, rowsI_get, rowsI_snoc, rowsP_at, rowsP_get, rowsP_snoc, Nat.mul_one, Nat.div_one, Nat.mod_one, c128_eq, c126_eq, c127_eq])
      · omega
      · rw [blockS, if_pos ⟨hok, fun e => hh.2 (by rw [e]; rfl)⟩]; rfl
noncomputable def c92 : List SV → Refs → Option (SV × List SV × Refs) := ctrOf (α := (List Pt)) (fun l => l.length ≤ 1000000) (fun l => [⟨.one, [.ro 2 (rowsP l)]⟩]) (fun l => []) (fun l => ⟨.one, [.str (blockS l)]⟩) (fun l => [⟨.one, [.ro 2 (rowsP l)]⟩]) (fun l => [])
theorem ctr92 : Ctr Try.prog 92 c92 := ctrOf_ok k92 (fun l hyp => g92 _ hyp)
theorem c92_eq {l : List Pt} (hyp : l.length ≤ 1000000) : c92 [⟨.one, [.ro 2 (rowsP l)]⟩] [] = some (⟨.one, [.str (blockS l)]⟩, [⟨.one, [.ro 2 (rowsP l)]⟩], []) := ctrOf_eq (α := (List Pt)) (x := l) (by intro x y h1 h2; simp at h1 h2; first | exact h1 | (simp_all; done) | (ext <;> simp_all)) hyp

end Go.Eng

namespace Go.Eng
open Go Go.Proofs

theorem tailT_eq (s : ByteArray) : rtimes ((unfS s).1.extract (rv (unfS s).1).2.toNat (unfS s).1.size) (rv (unfS s).1).1 = tailT s := rfl
theorem tailV_eq (s : ByteArray) : rvalues ((unfS s).1.extract ((rv (unfS s).1).2 + (tailT s).2).toNat (unfS s).1.size) (rv (unfS s).1).1 = tailV s := rfl
theorem tailT_rng (s : ByteArray) : 0 ≤ (tailT s).2 ∧ (rv (unfS s).1).2 + (tailT s).2 ≤ (unfS s).1.size ∧ (tailT s).1.length ≤ 60 := by
  have h1 := rv_rng (unfS s).1
  have h2 := rtimes_rng ((unfS s).1.extract (rv (unfS s).1).2.toNat (unfS s).1.size) (rv (unfS s).1).1
  rw [tailT_eq] at h2
  have h3 : ((unfS s).1.extract (rv (unfS s).1).2.toNat (unfS s).1.size).size = (unfS s).1.size - (rv (unfS s).1).2.toNat := by
    rw [← bytes_length, bytes_tail, List.length_drop, bytes_length]
  omega
theorem tailV_rng (s : ByteArray) : 0 ≤ (tailV s).2 ∧ (tailV s).2 ≤ (unfS s).1.size ∧ (tailV s).1.length ≤ 60 := by
  have h2 := rvalues_rng ((unfS s).1.extract ((rv (unfS s).1).2 + (tailT s).2).toNat (unfS s).1.size) (rv (unfS s).1).1
  rw [tailV_eq] at h2
  have := extract_le (unfS s).1 ((rv (unfS s).1).2 + (tailT s).2).toNat (unfS s).1.size
  omega
theorem tailT_len {s : ByteArray} (h : (tailT s).2 ≠ 0) : ((tailT s).1.length : Int) = (rv (unfS s).1).1 ∧ (rv (unfS s).1).1 ≤ 60 := by
  rcases rtimes_cases ((unfS s).1.extract (rv (unfS s).1).2.toNat (unfS s).1.size) (rv (unfS s).1).1 with ⟨l, h1, h2⟩ | ⟨_, h2⟩
  · rw [tailT_eq] at h2
    rw [h2]
    have := h1.1.2
    have := h1.2.1
    simp only; omega
  · rw [tailT_eq] at h2
    rw [h2] at h; exact absurd rfl h
theorem tailV_len {s : ByteArray} (h : (tailV s).2 ≠ 0) : ((tailV s).1.length : Int) = (rv (unfS s).1).1 := by
  rcases rvalues_cases ((unfS s).1.extract ((rv (unfS s).1).2 + (tailT s).2).toNat (unfS s).1.size) (rv (unfS s).1).1 with ⟨l, h1, h2⟩ | ⟨_, h2⟩
  · rw [tailV_eq] at h2
    rw [h2]
    exact h1.2.1
  · rw [tailV_eq] at h2
    rw [h2] at h; exact absurd rfl h
theorem zip_snoc {a b : List Int} {i : Nat} (h1 : i < a.length) (h2 : i < b.length) : (a.zip b).take i ++ [(a.getD i 0, b.getD i 0)] = (a.zip b).take (i + 1) := by
  have h3 : i < (a.zip b).length := by rw [List.length_zip]; omega
  rw [List.take_succ_eq_append_getElem h3, List.getElem_zip]
  simp [List.getD, h1, h2]
theorem rblock_len (s : ByteArray) : (rblock s).1.length ≤ 60 := by
  rcases rblock_cases s with ⟨l, h, e⟩ | ⟨_, e⟩
  · rw [e]; exact h.1.2.2
  · rw [e]; simp

theorem g29 (s : ByteArray) : Good Try.prog 29 [⟨.one, [.str s]⟩] [] (⟨.tup [(false, 1), (false, 1)], [.own 2 (rowsP (rblock s).1), .bool (rblock s).2]⟩) [⟨.one, [.str s]⟩] [] := by
  refine Good_of (E := envOf [(88, c88), (89, c89), (90, c90), (91, c91), (92, c92)]) (envOk_of ⟨ctr88, ⟨ctr89, ⟨ctr90, ⟨ctr91, ⟨ctr92, trivial⟩⟩⟩⟩⟩) Try.func29 m29 rfl ?_
  have r1 := rv_rng (unfS s).1
  have r2 := tailT_rng s
  have r3 := tailV_rng s
  have r4 := unf_size s
  simp (maxSteps := 1000000) (disch := omega) only [go_sem, wI, wB, x29, r29_0, r29_1, r29_2, r29_3, r29_4, r29_5, r29_6, r29_7, r29_8, r29_9, r29_10, r29_11, r29_12, r29_13, r29_14, r29_15, r29_16, r29_17, Int.toNat_natCast, natS1, natS2, rowsI_at, rowsI_at0, rowsI_get, rowsI_snoc, rowsP_at, rowsP_get, rowsP_snoc, Nat.mul_one, Nat.div_one, Nat.mod_one, tailT_eq, tailV_eq, c92_eq]
  repeat' (first | ((with_reducible apply scEnd_of); exact rfl; exact rfl) | ((with_reducible apply ScW_of); rfl; rfl; trivial; (intro h; try simp only [HS] at h)) | ((with_reducible apply Br_of) <;> (intro h; (try simp only [h]); (try simp only [HS] at h))) | ((with_reducible first | refine Opt_put_if ?_ ?_ | refine Opt_if ?_ ?_ | refine Opt_bind_if ?_ ?_ | refine Opt_ifb ?_ ?_); (· (first | omega | (refine ⟨?_, ?_⟩ <;> omega) | (refine ⟨?_, ?_, ?_⟩ <;> omega) | (refine ⟨rfl, ?_⟩; simp only [okBig, Bool.and_eq_true, decide_eq_true_eq]; omega) | (refine Nat.le_trans (Nat.add_le_add_left (varS_le _) _) ?_; simp only [size_strOfNums, List.length_cons, List.length_nil, rowsI_length, rowsP_length, List.length_take, List.length_map, ByteArray.size_append, List.length_zip]; omega) | (refine ⟨rfl, ?_⟩; simp only [okBig, Bool.and_eq_true, decide_eq_true_eq, size_strOfNums, List.length_cons, List.length_nil, rowsI_length, rowsP_length, List.length_take, List.length_map, ByteArray.size_append, List.length_zip]; omega) | (simp only [size_strOfNums, List.length_cons, List.length_nil, rowsI_length, rowsP_length, List.length_take, List.length_map, ByteArray.size_append, List.length_zip]; omega)))) | ((with_reducible refine Opt_bind_ifn ?_ ?_); (· omega)) | simp (maxSteps := 1000000) (disch := omega) only [go_sem, wI, wB, Int.toNat_natCast, natS1, natS2, rowsI_at, rowsI_at0, rowsI_get, rowsI_snoc, rowsP_at, rowsP_get, rowsP_snoc, Nat.mul_one, Nat.div_one, Nat.mod_one, tailT_eq, tailV_eq, c92_eq])
  all_goals (try (exfalso; omega))
  · rw [← blockI_eq, blockI, rblockI, if_pos h]; rfl
  · rw [← blockI_eq, blockI, rblockI, if_neg (by omega), if_pos h]; rfl
  · refine LoopK_of (α := Nat) (fun p => ⟨[(64, i64 p), (63, i64 (tailT s).1.length), (62, ⟨.one, [.al ⟨.slot 9 0, []⟩]⟩), (13, ⟨.one, [.own 2 (rowsP (((tailT s).1.zip (tailV s).1).take p))]⟩), (11, ⟨.one, [.own 1 (rowsI (tailV s).1)]⟩), (9, ⟨.one, [.own 1 (rowsI (tailT s).1)]⟩), (0, st1 s)], [], [(0, st1 s)]⟩) (fun p => p ≤ (tailT s).1.length) (fun p => (tailT s).1.length - p) 0 rfl (Nat.zero_le _) ?_
    intro i hi
    by_cases hl : i < (tailT s).1.length
    · simp (maxSteps := 1000000) (disch := omega) only [go_sem, wI, wB, x29, r29_0, r29_1, r29_2, r29_3, r29_4, r29_5, r29_6, r29_7, r29_8, r29_9, r29_10, r29_11, r29_12, r29_13, r29_14, r29_15, r29_16, r29_17, Int.toNat_natCast, natS1, natS2, rowsI_at, rowsI_at0, rowsI_get, rowsI_snoc, rowsP_at, rowsP_get, rowsP_snoc, Nat.mul_one, Nat.div_one, Nat.mod_one, tailT_eq, tailV_eq, c92_eq]
      repeat' (first | ((with_reducible apply scEnd_of); exact rfl; exact rfl) | ((with_reducible apply ScW_of); rfl; rfl; trivial; (intro h; try simp only [HS] at h)) | ((with_reducible apply Br_of) <;> (intro h; (try simp only [h]); (try simp only [HS] at h))) | ((with_reducible first | refine Opt_put_if ?_ ?_ | refine Opt_if ?_ ?_ | refine Opt_bind_if ?_ ?_ | refine Opt_ifb ?_ ?_); (· (first | omega | (refine ⟨?_, ?_⟩ <;> omega) | (refine ⟨?_, ?_, ?_⟩ <;> omega) | (refine ⟨rfl, ?_⟩; simp only [okBig, Bool.and_eq_true, decide_eq_true_eq]; omega) | (refine Nat.le_trans (Nat.add_le_add_left (varS_le _) _) ?_; simp only [size_strOfNums, List.length_cons, List.length_nil, rowsI_length, rowsP_length, List.length_take, List.length_map, ByteArray.size_append, List.length_zip]; omega) | (refine ⟨rfl, ?_⟩; simp only [okBig, Bool.and_eq_true, decide_eq_true_eq, size_strOfNums, List.length_cons, List.length_nil, rowsI_length, rowsP_length, List.length_take, List.length_map, ByteArray.size_append, List.length_zip]; omega) | (simp only [size_strOfNums, List.length_cons, List.length_nil, rowsI_length, rowsP_length, List.length_take, List.length_map, ByteArray.size_append, List.length_zip]; omega)))) | ((with_reducible refine Opt_bind_ifn ?_ ?_); (· omega)) | simp (maxSteps := 1000000) (disch := omega) only [go_sem, wI, wB, Int.toNat_natCast, natS1, natS2, rowsI_at, rowsI_at0, rowsI_get, rowsI_snoc, rowsP_at, rowsP_get, rowsP_snoc, Nat.mul_one, Nat.div_one, Nat.mod_one, tailT_eq, tailV_eq, c92_eq])
      all_goals (try (exfalso; omega))
      · rw [zip_snoc (by omega) (by omega)]
        exact LoopQ_of (i + 1) rfl (by omega) (by omega)
    · have e : i = (tailT s).1.length := by omega
      subst e
      rw [List.take_of_length_le (by rw [List.length_zip]; omega)]
      have z1 : ((tailT s).1.zip (tailV s).1).length ≤ 1000000 := by rw [List.length_zip]; omega
      simp (maxSteps := 1000000) (disch := omega) only [go_sem, wI, wB, x29, r29_0, r29_1, r29_2, r29_3, r29_4, r29_5, r29_6, r29_7, r29_8, r29_9, r29_10, r29_11, r29_12, r29_13, r29_14, r29_15, r29_16, r29_17, Int.toNat_natCast, natS1, natS2, rowsI_at, rowsI_at0, rowsI_get, rowsI_snoc, rowsP_at, rowsP_get, rowsP_snoc, Nat.mul_one, Nat.div_one, Nat.mod_one, tailT_eq, tailV_eq, c92_eq]
      repeat' (first | ((with_reducible apply scEnd_of); exact rfl; exact rfl) | ((with_reducible apply ScW_of); rfl; rfl; trivial; (intro h; try simp only [HS] at h)) | ((with_reducible apply Br_of) <;> (intro h; (try simp only [h]); (try simp only [HS] at h))) | ((with_reducible first | refine Opt_put_if ?_ ?_ | refine Opt_if ?_ ?_ | refine Opt_bind_if ?_ ?_ | refine Opt_ifb ?_ ?_); (· (first | omega | (refine ⟨?_, ?_⟩ <;> omega) | (refine ⟨?_, ?_, ?_⟩ <;> omega) | (refine ⟨rfl, ?_⟩; simp only [okBig, Bool.and_eq_true, decide_eq_true_eq]; omega) | (refine Nat.le_trans (Nat.add_le_add_left (varS_le _) _) ?_; simp only [size_strOfNums, List.length_cons, List.length_nil, rowsI_length, rowsP_length, List.length_take, List.length_map, ByteArray.size_append, List.length_zip]; omega) | (refine ⟨rfl, ?_⟩; simp only [okBig, Bool.and_eq_true, decide_eq_true_eq, size_strOfNums, List.length_cons, List.length_nil, rowsI_length, rowsP_length, List.length_take, List.length_map, ByteArray.size_append, List.length_zip]; omega) | (simp only [size_strOfNums, List.length_cons, List.length_nil, rowsI_length, rowsP_length, List.length_take, List.length_map, ByteArray.size_append, List.length_zip]; omega)))) | ((with_reducible refine Opt_bind_ifn ?_ ?_); (· omega)) | simp (maxSteps := 1000000) (disch := omega) only [go_sem, wI, wB, Int.toNat_natCast, natS1, natS2, rowsI_at, rowsI_at0, rowsI_get, rowsI_snoc, rowsP_at, rowsP_get, rowsP_snoc, Nat.mul_one, Nat.div_one, Nat.mod_one, tailT_eq, tailV_eq, c92_eq])
      all_goals (try (exfalso; omega))
      · rw [← blockI_eq, blockI, rblockI, if_neg (by omega), if_neg (by omega), if_neg h]; rfl
      · rw [← blockI_eq, blockI, rblockI, if_neg (by omega), if_neg (by omega), if_pos h]
noncomputable def c29 : List SV → Refs → Option (SV × List SV × Refs)
  | [⟨.one, [.str s]⟩], [] => some (⟨.tup [(false, 1), (false, 1)], [.own 2 (rowsP (rblock s).1), .bool (rblock s).2]⟩, [⟨.one, [.str s]⟩], [])
  | _, _ => none
theorem ctr29 : Ctr Try.prog 29 c29 := by
  refine ⟨k29, fun args rf res args' rf' h => ?_⟩
  unfold c29 at h
  split at h
  · simp only [Option.some.injEq, Prod.mk.injEq] at h
    obtain ⟨rfl, rfl, rfl⟩ := h
    exact g29 _
  · simp at h
@[go_sem] theorem c29_eq {s : ByteArray} : c29 [⟨.one, [.str s]⟩] [] = some (⟨.tup [(false, 1), (false, 1)], [.own 2 (rowsP (rblock s).1), .bool (rblock s).2]⟩, [⟨.one, [.str s]⟩], []) := rfl

theorem g86 (s : ByteArray) : Good Try.prog 86 [⟨.one, [.str s]⟩] [] (⟨.tup [(false, 1), (false, 1)], [.own 2 (rowsP (rblock s).1), .bool (rblock s).2]⟩) [⟨.one, [.str s]⟩] [] := by
  refine Good_of (E := envOf [(119, c119), (116, c116), (120, c120), (121, c121)]) (envOk_of ⟨ctr119, ⟨ctr116, ⟨ctr120, ⟨ctr121, trivial⟩⟩⟩⟩) Try.func86 m86 rfl ?_
  have r1 := rv_rng (unfS s).1
  have r2 := tailT_rng s
  have r3 := tailV_rng s
  have r4 := unf_size s
  have r5 := extract_le (unfS s).1 (rv (unfS s).1).2.toNat (unfS s).1.size
  have r6 := extract_le (unfS s).1 ((rv (unfS s).1).2 + (tailT s).2).toNat (unfS s).1.size
  simp (maxSteps := 1000000) (disch := omega) only [go_sem, wI, wB, x86, r86_0, r86_1, r86_2, r86_3, r86_4, r86_5, r86_6, r86_7, r86_8, r86_9, r86_10, r86_11, r86_12, r86_13, r86_14, r86_16v, r86_16t, r86_15, r86_17, Int.toNat_natCast, natS1, natS2, rowsI_at, rowsI_at0, rowsI_get, rowsI_snoc, rowsP_at, rowsP_get, rowsP_snoc, Nat.mul_one, Nat.div_one, Nat.mod_one, tailT_eq, tailV_eq, c120_eq, c121_eq]
  repeat' (first | ((with_reducible apply scEnd_of); exact rfl; exact rfl) | ((with_reducible apply ScW_of); rfl; rfl; trivial; (intro h; try simp only [HS] at h)) | ((with_reducible apply Br_of) <;> (intro h; (try simp only [h]); (try simp only [HS] at h))) | ((with_reducible first | refine Opt_put_if ?_ ?_ | refine Opt_if ?_ ?_ | refine Opt_bind_if ?_ ?_ | refine Opt_ifb ?_ ?_); (· (first | omega | (refine ⟨?_, ?_⟩ <;> omega) | (refine ⟨?_, ?_, ?_⟩ <;> omega) | (refine ⟨rfl, ?_⟩; simp only [okBig, Bool.and_eq_true, decide_eq_true_eq]; omega) | (refine Nat.le_trans (Nat.add_le_add_left (varS_le _) _) ?_; simp only [size_strOfNums, List.length_cons, List.length_nil, rowsI_length, rowsP_length, List.length_take, List.length_map, ByteArray.size_append, List.length_zip]; omega) | (refine ⟨rfl, ?_⟩; simp only [okBig, Bool.and_eq_true, decide_eq_true_eq, size_strOfNums, List.length_cons, List.length_nil, rowsI_length, rowsP_length, List.length_take, List.length_map, ByteArray.size_append, List.length_zip]; omega) | (simp only [size_strOfNums, List.length_cons, List.length_nil, rowsI_length, rowsP_length, List.length_take, List.length_map, ByteArray.size_append, List.length_zip]; omega)))) | ((with_reducible refine Opt_bind_ifn ?_ ?_); (· omega)) | simp (maxSteps := 1000000) (disch := omega) only [go_sem, wI, wB, Int.toNat_natCast, natS1, natS2, rowsI_at, rowsI_at0, rowsI_get, rowsI_snoc, rowsP_at, rowsP_get, rowsP_snoc, Nat.mul_one, Nat.div_one, Nat.mod_one, tailT_eq, tailV_eq, c120_eq, c121_eq])
  all_goals (try (exfalso; omega))
  · rw [← blockSp_eq, blockSp, if_pos h]; rfl
  · rw [← blockSp_eq, blockSp, if_neg (by omega), if_pos h]; rfl
  · rw [← blockSp_eq, blockSp, if_neg (by omega), if_neg (by omega), if_pos h]; rfl
  · have hT := tailT_len (s := s) (by omega)
    have hV := tailV_len (s := s) (by omega)
    refine LoopK_of (α := Nat) (fun p => ⟨[(15, i64 p), (14, ⟨.one, [.own 2 (rowsP (((tailT s).1.zip (tailV s).1).take p))]⟩), (12, ⟨.one, [.own 1 (rowsI (tailV s).1)]⟩), (10, ⟨.one, [.own 1 (rowsI (tailT s).1)]⟩), (8, i64 (rv (unfS s).1).1)], [], [(0, st1 s)]⟩) (fun p => p ≤ (tailT s).1.length) (fun p => (tailT s).1.length - p) 0 rfl (Nat.zero_le _) ?_
    intro i hi
    by_cases hl : i < (tailT s).1.length
    · simp (maxSteps := 1000000) (disch := omega) only [go_sem, wI, wB, x86, r86_0, r86_1, r86_2, r86_3, r86_4, r86_5, r86_6, r86_7, r86_8, r86_9, r86_10, r86_11, r86_12, r86_13, r86_14, r86_16v, r86_16t, r86_15, r86_17, Int.toNat_natCast, natS1, natS2, rowsI_at, rowsI_at0, rowsI_get, rowsI_snoc, rowsP_at, rowsP_get, rowsP_snoc, Nat.mul_one, Nat.div_one, Nat.mod_one, tailT_eq, tailV_eq, c120_eq, c121_eq]
      repeat' (first | ((with_reducible apply scEnd_of); exact rfl; exact rfl) | ((with_reducible apply ScW_of); rfl; rfl; trivial; (intro h; try simp only [HS] at h)) | ((with_reducible apply Br_of) <;> (intro h; (try simp only [h]); (try simp only [HS] at h))) | ((with_reducible first | refine Opt_put_if ?_ ?_ | refine Opt_if ?_ ?_ | refine Opt_bind_if ?_ ?_ | refine Opt_ifb ?_ ?_); (· (first | omega | (refine ⟨?_, ?_⟩ <;> omega) | (refine ⟨?_, ?_, ?_⟩ <;> omega) | (refine ⟨rfl, ?_⟩; simp only [okBig, Bool.and_eq_true, decide_eq_true_eq]; omega) | (refine Nat.le_trans (Nat.add_le_add_left (varS_le _) _) ?_; simp only [size_strOfNums, List.length_cons, List.length_nil, rowsI_length, rowsP_length, List.length_take, List.length_map, ByteArray.size_append, List.length_zip]; omega) | (refine ⟨rfl, ?_⟩; simp only [okBig, Bool.and_eq_true, decide_eq_true_eq, size_strOfNums, List.length_cons, List.length_nil, rowsI_length, rowsP_length, List.length_take, List.length_map, ByteArray.size_append, List.length_zip]; omega) | (simp only [size_strOfNums, List.length_cons, List.length_nil, rowsI_length, rowsP_length, List.length_take, List.length_map, ByteArray.size_append, List.length_zip]; omega)))) | ((with_reducible refine Opt_bind_ifn ?_ ?_); (· omega)) | simp (maxSteps := 1000000) (disch := omega) only [go_sem, wI, wB, Int.toNat_natCast, natS1, natS2, rowsI_at, rowsI_at0, rowsI_get, rowsI_snoc, rowsP_at, rowsP_get, rowsP_snoc, Nat.mul_one, Nat.div_one, Nat.mod_one, tailT_eq, tailV_eq, c120_eq, c121_eq])
      all_goals (try (exfalso; omega))
      · rw [zip_snoc (by omega) (by omega)]
        exact LoopQ_of (i + 1) rfl (by omega) (by omega)
    · have e : i = (tailT s).1.length := by omega
      subst e
      rw [List.take_of_length_le (by rw [List.length_zip]; omega)]
      simp (maxSteps := 1000000) (disch := omega) only [go_sem, wI, wB, x86, r86_0, r86_1, r86_2, r86_3, r86_4, r86_5, r86_6, r86_7, r86_8, r86_9, r86_10, r86_11, r86_12, r86_13, r86_14, r86_16v, r86_16t, r86_15, r86_17, Int.toNat_natCast, natS1, natS2, rowsI_at, rowsI_at0, rowsI_get, rowsI_snoc, rowsP_at, rowsP_get, rowsP_snoc, Nat.mul_one, Nat.div_one, Nat.mod_one, tailT_eq, tailV_eq, c120_eq, c121_eq]
      repeat' (first | ((with_reducible apply scEnd_of); exact rfl; exact rfl) | ((with_reducible apply ScW_of); rfl; rfl; trivial; (intro h; try simp only [HS] at h)) | ((with_reducible apply Br_of) <;> (intro h; (try simp only [h]); (try simp only [HS] at h))) | ((with_reducible first | refine Opt_put_if ?_ ?_ | refine Opt_if ?_ ?_ | refine Opt_bind_if ?_ ?_ | refine Opt_ifb ?_ ?_); (· (first | omega | (refine ⟨?_, ?_⟩ <;> omega) | (refine ⟨?_, ?_, ?_⟩ <;> omega) | (refine ⟨rfl, ?_⟩; simp only [okBig, Bool.and_eq_true, decide_eq_true_eq]; omega) | (refine Nat.le_trans (Nat.add_le_add_left (varS_le _) _) ?_; simp only [size_strOfNums, List.length_cons, List.length_nil, rowsI_length, rowsP_length, List.length_take, List.length_map, ByteArray.size_append, List.length_zip]; omega) | (refine ⟨rfl, ?_⟩; simp only [okBig, Bool.and_eq_true, decide_eq_true_eq, size_strOfNums, List.length_cons, List.length_nil, rowsI_length, rowsP_length, List.length_take, List.length_map, ByteArray.size_append, List.length_zip]; omega) | (simp only [size_strOfNums, List.length_cons, List.length_nil, rowsI_length, rowsP_length, List.length_take, List.length_map, ByteArray.size_append, List.length_zip]; omega)))) | ((with_reducible refine Opt_bind_ifn ?_ ?_); (· omega)) | simp (maxSteps := 1000000) (disch := omega) only [go_sem, wI, wB, Int.toNat_natCast, natS1, natS2, rowsI_at, rowsI_at0, rowsI_get, rowsI_snoc, rowsP_at, rowsP_get, rowsP_snoc, Nat.mul_one, Nat.div_one, Nat.mod_one, tailT_eq, tailV_eq, c120_eq, c121_eq])
      all_goals (try (exfalso; omega))
      · rw [← blockSp_eq, blockSp, if_neg (by omega), if_neg (by omega), if_neg (by omega)]
noncomputable def c86 : List SV → Refs → Option (SV × List SV × Refs)
  | [⟨.one, [.str s]⟩], [] => some (⟨.tup [(false, 1), (false, 1)], [.own 2 (rowsP (rblock s).1), .bool (rblock s).2]⟩, [⟨.one, [.str s]⟩], [])
  | _, _ => none
theorem ctr86 : Ctr Try.prog 86 c86 := by
  refine ⟨k86, fun args rf res args' rf' h => ?_⟩
  unfold c86 at h
  split at h
  · simp only [Option.some.injEq, Prod.mk.injEq] at h
    obtain ⟨rfl, rfl, rfl⟩ := h
    exact g86 _
  · simp at h
@[go_sem] theorem c86_eq {s : ByteArray} : c86 [⟨.one, [.str s]⟩] [] = some (⟨.tup [(false, 1), (false, 1)], [.own 2 (rowsP (rblock s).1), .bool (rblock s).2]⟩, [⟨.one, [.str s]⟩], []) := rfl

end Go.Eng

namespace Go.Eng
open Go Go.Proofs

def spanP (f t : Int) : Prop := 0 ≤ f ∧ f < t ∧ t ≤ 1099511627776
instance (f t : Int) : Decidable (spanP f t) := inferInstanceAs (Decidable (_ ∧ _))
def E0 : ByteArray := ⟨#[]⟩
open Classical in
noncomputable def opB (k : Int) (key : ByteArray) (f t : Int) (d : ByteArray) : Bool := decide (
  (k = 1 ∧ spanP f t ∧ key = ⟨#[]⟩ ∧ d = ⟨#[]⟩) ∨ ((k = 2 ∨ k = 6) ∧ (0 ≤ f ∧ f ≤ 1099511627776) ∧ key = ⟨#[]⟩ ∧ t = 0 ∧ d = ⟨#[]⟩) ∨ (k = 3 ∧ (0 ≤ f ∧ f ≤ 100000) ∧ key = ⟨#[]⟩ ∧ t = 0 ∧ d = ⟨#[]⟩) ∨
  (k = 4 ∧ (rblock d).2 = true ∧ keyB key = true ∧ f = 0 ∧ t = 0) ∨ (k = 5 ∧ keyB key = true ∧ spanP f t ∧ d = ⟨#[]⟩) ∨ (k = 7 ∧ key = ⟨#[]⟩ ∧ f = 0 ∧ t = 0 ∧ d = ⟨#[]⟩))
def ansB (c i m : Int) (d : ByteArray) : Bool := (decide (0 ≤ c) && decide (c ≤ 4)) && ((decide (0 ≤ i) && decide (i ≤ 100000)) && ((decide (0 ≤ m) && decide (m ≤ 1099511627776)) && decide ((d.size : Int) ≤ 900)))

theorem g135 (k : Int) (key : ByteArray) (f t : Int) (d : ByteArray) : Good Try.prog 135 [⟨.agg, [.int .i64 k, .str key, .int .i64 f, .int .i64 t, .str d]⟩] [] (⟨.one, [.bool (decide (0 ≤ f) && decide (f < t) && decide (t ≤ 1099511627776))]⟩) [⟨.agg, [.int .i64 k, .str key, .int .i64 f, .int .i64 t, .str d]⟩] [] := by
  refine Good_of (E := envOf []) (envOk_of trivial) Try.func135 m135 rfl ?_
  simp (maxSteps := 1000000) (disch := omega) only [go_sem, wI, wB, x135, r135_0, r135_1, Int.toNat_natCast]
  repeat' (first | ((with_reducible apply scEnd_of); exact rfl; exact rfl) | ((with_reducible apply ScW_of); rfl; rfl; trivial; (intro h; try simp only [HS] at h)) | ((with_reducible apply Br_of) <;> (intro h; (try simp only [h]); (try simp only [HS] at h))) | ((with_reducible first | refine Opt_put_if ?_ ?_ | refine Opt_if ?_ ?_ | refine Opt_bind_if ?_ ?_ | refine Opt_ifb ?_ ?_); (· (first | omega | (refine ⟨?_, ?_⟩ <;> omega) | (refine ⟨?_, ?_, ?_⟩ <;> omega) | (refine ⟨rfl, ?_⟩; simp only [okBig, Bool.and_eq_true, decide_eq_true_eq]; omega)))) | ((with_reducible refine Opt_bind_ifn ?_ ?_); (· omega)) | simp (maxSteps := 1000000) (disch := omega) only [go_sem, wI, wB, Int.toNat_natCast])
  all_goals rfl
noncomputable def c135 : List SV → Refs → Option (SV × List SV × Refs)
  | [⟨.agg, [.int .i64 k, .str key, .int .i64 f, .int .i64 t, .str d]⟩], [] => some (⟨.one, [.bool (decide (0 ≤ f) && decide (f < t) && decide (t ≤ 1099511627776))]⟩, [⟨.agg, [.int .i64 k, .str key, .int .i64 f, .int .i64 t, .str d]⟩], [])
  | _, _ => none
theorem ctr135 : Ctr Try.prog 135 c135 := by
  refine ⟨k135, fun args rf res args' rf' h => ?_⟩
  unfold c135 at h
  split at h
  · simp only [Option.some.injEq, Prod.mk.injEq] at h
    obtain ⟨rfl, rfl, rfl⟩ := h
    exact g135 _ _ _ _ _
  · simp at h
@[go_sem] theorem c135_eq {k : Int} {key : ByteArray} {f t : Int} {d : ByteArray} : c135 [⟨.agg, [.int .i64 k, .str key, .int .i64 f, .int .i64 t, .str d]⟩] [] = some (⟨.one, [.bool (decide (0 ≤ f) && decide (f < t) && decide (t ≤ 1099511627776))]⟩, [⟨.agg, [.int .i64 k, .str key, .int .i64 f, .int .i64 t, .str d]⟩], []) := rfl

theorem g112 (k : Int) (key : ByteArray) (f t : Int) (d : ByteArray) (hyp : key.size ≤ 9223372036854775807) : Good Try.prog 112 [⟨.agg, [.int .i64 k, .str key, .int .i64 f, .int .i64 t, .str d]⟩] [] (⟨.one, [.bool (opB k key f t d)]⟩) [⟨.agg, [.int .i64 k, .str key, .int .i64 f, .int .i64 t, .str d]⟩] [] := by
  refine Good_of (E := envOf [(135, c135), (31, c31), (32, c32), (29, c29), (30, c30)]) (envOk_of ⟨ctr135, ⟨ctr31, ⟨ctr32, ⟨ctr29, ⟨ctr30, trivial⟩⟩⟩⟩⟩) Try.func112 m112 rfl ?_
  simp (maxSteps := 1000000) (disch := omega) only [go_sem, wI, wB, x112, r112_0, r112_1, r112_2, r112_3, r112_4, r112_5, r112_6, r112_7, r112_8, r112_9, r112_10, r112_11, r112_12, r112_13, r112_14, r112_15, r112_16, r112_17, r112_18, r112_19, r112_20, r112_21, r112_22, r112_23, r112_24, Int.toNat_natCast, c30_eq]
  repeat' (first | ((with_reducible apply scEnd_of); exact rfl; exact rfl) | ((with_reducible apply ScW_of); rfl; rfl; trivial; (intro h; try simp only [HS] at h)) | ((with_reducible apply Br_of) <;> (intro h; (try simp only [h]); (try simp only [HS] at h))) | ((with_reducible first | refine Opt_put_if ?_ ?_ | refine Opt_if ?_ ?_ | refine Opt_bind_if ?_ ?_ | refine Opt_ifb ?_ ?_); (· (first | omega | (refine ⟨?_, ?_⟩ <;> omega) | (refine ⟨?_, ?_, ?_⟩ <;> omega) | (refine ⟨rfl, ?_⟩; simp only [okBig, Bool.and_eq_true, decide_eq_true_eq]; omega)))) | ((with_reducible refine Opt_bind_ifn ?_ ?_); (· omega)) | simp (maxSteps := 1000000) (disch := omega) only [go_sem, wI, wB, Int.toNat_natCast, c30_eq])
  all_goals (simp only [Prod.mk.injEq, SV.mk.injEq, List.cons.injEq, Cell.bool.injEq, and_true, true_and, opB, eq_comm (a := (⟨#[]⟩ : ByteArray)), eq_comm (a := (0 : Int))]; rw [Bool.eq_iff_iff]; simp only [Bool.and_eq_true, decide_eq_true_eq, spanP]; grind)
noncomputable def c112 : List SV → Refs → Option (SV × List SV × Refs)
  | [⟨.agg, [.int .i64 k, .str key, .int .i64 f, .int .i64 t, .str d]⟩], [] => (open Classical in if key.size ≤ 9223372036854775807 then some (⟨.one, [.bool (opB k key f t d)]⟩, [⟨.agg, [.int .i64 k, .str key, .int .i64 f, .int .i64 t, .str d]⟩], []) else none)
  | _, _ => none
theorem ctr112 : Ctr Try.prog 112 c112 := by
  refine ⟨k112, fun args rf res args' rf' h => ?_⟩
  unfold c112 at h
  split at h
  · split at h
    · rename_i hyp
      simp only [Option.some.injEq, Prod.mk.injEq] at h
      obtain ⟨rfl, rfl, rfl⟩ := h
      exact g112 _ _ _ _ _ hyp
    · simp at h
  · simp at h
theorem c112_eq {k : Int} {key : ByteArray} {f t : Int} {d : ByteArray} (hyp : key.size ≤ 9223372036854775807) : c112 [⟨.agg, [.int .i64 k, .str key, .int .i64 f, .int .i64 t, .str d]⟩] [] = some (⟨.one, [.bool (opB k key f t d)]⟩, [⟨.agg, [.int .i64 k, .str key, .int .i64 f, .int .i64 t, .str d]⟩], []) := if_pos hyp

theorem g28 (k : Int) (key : ByteArray) (f t : Int) (d : ByteArray) : Good Try.prog 28 [⟨.agg, [.int .i64 k, .str key, .int .i64 f, .int .i64 t, .str d]⟩] [] (⟨.one, [.bool (opB k key f t d)]⟩) [⟨.agg, [.int .i64 k, .str key, .int .i64 f, .int .i64 t, .str d]⟩] [] := by
  refine Good_of (E := envOf [(36, c36), (86, c86), (87, c87)]) (envOk_of ⟨ctr36, ⟨ctr86, ⟨ctr87, trivial⟩⟩⟩) Try.func28 m28 rfl ?_
  simp (maxSteps := 1000000) (disch := omega) only [go_sem, wI, wB, x28, r28_0, r28_1, r28_2, r28_3, r28_4, r28_5, r28_6, r28_7, r28_8, r28_9, r28_10, r28_11, r28_12, r28_13, r28_14, r28_15, r28_16, r28_17, r28_18, r28_19, r28_20, r28_21, r28_22, r28_23, r28_24, r28_25, r28_26, r28_27, r28_28, Int.toNat_natCast]
  repeat' (first | ((with_reducible apply scEnd_of); exact rfl; exact rfl) | ((with_reducible apply ScW_of); rfl; rfl; trivial; (intro h; try simp only [HS] at h)) | ((with_reducible apply Br_of) <;> (intro h; (try simp only [h]); (try simp only [HS] at h))) | ((with_reducible first | refine Opt_put_if ?_ ?_ | refine Opt_if ?_ ?_ | refine Opt_bind_if ?_ ?_ | refine Opt_ifb ?_ ?_); (· (first | omega | (refine ⟨?_, ?_⟩ <;> omega) | (refine ⟨?_, ?_, ?_⟩ <;> omega) | (refine ⟨rfl, ?_⟩; simp only [okBig, Bool.and_eq_true, decide_eq_true_eq]; omega)))) | ((with_reducible refine Opt_bind_ifn ?_ ?_); (· omega)) | simp (maxSteps := 1000000) (disch := omega) only [go_sem, wI, wB, Int.toNat_natCast])
  all_goals (simp only [Prod.mk.injEq, SV.mk.injEq, List.cons.injEq, Cell.bool.injEq, and_true, true_and, opB, eq_comm (a := (⟨#[]⟩ : ByteArray)), eq_comm (a := (0 : Int))]; rw [Bool.eq_iff_iff]; simp only [Bool.and_eq_true, decide_eq_true_eq, spanP]; grind)
noncomputable def c28 : List SV → Refs → Option (SV × List SV × Refs)
  | [⟨.agg, [.int .i64 k, .str key, .int .i64 f, .int .i64 t, .str d]⟩], [] => some (⟨.one, [.bool (opB k key f t d)]⟩, [⟨.agg, [.int .i64 k, .str key, .int .i64 f, .int .i64 t, .str d]⟩], [])
  | _, _ => none
theorem ctr28 : Ctr Try.prog 28 c28 := by
  refine ⟨k28, fun args rf res args' rf' h => ?_⟩
  unfold c28 at h
  split at h
  · simp only [Option.some.injEq, Prod.mk.injEq] at h
    obtain ⟨rfl, rfl, rfl⟩ := h
    exact g28 _ _ _ _ _
  · simp at h
@[go_sem] theorem c28_eq {k : Int} {key : ByteArray} {f t : Int} {d : ByteArray} : c28 [⟨.agg, [.int .i64 k, .str key, .int .i64 f, .int .i64 t, .str d]⟩] [] = some (⟨.one, [.bool (opB k key f t d)]⟩, [⟨.agg, [.int .i64 k, .str key, .int .i64 f, .int .i64 t, .str d]⟩], []) := rfl

end Go.Eng

namespace Go.Eng
open Go

/-! ### Ops and answers as texts -/
structure OpV where
  k : Int
  key : ByteArray
  f : Int
  t : Int
  d : ByteArray
noncomputable def OpV.okB (o : OpV) : Bool := opB o.k o.key o.f o.t o.d
def OpV.zero : OpV := ⟨0, ⟨#[]⟩, 0, 0, ⟨#[]⟩⟩
def opT (o : OpV) : ByteArray := strOfNums [o.k] ++ varS o.key.size ++ o.key ++ varS o.f ++ varS o.t ++ o.d
noncomputable def opS (o : OpV) : ByteArray := if o.okB = true then opT o else ⟨#[]⟩
theorem keyB_size {s : ByteArray} (h : keyB s = true) : 1 ≤ s.size ∧ s.size ≤ 8 := by
  simp only [keyB, Bool.and_eq_true, decide_eq_true_eq] at h
  omega
theorem okB_rng {o : OpV} (h : o.okB = true) : (1 ≤ o.k ∧ o.k ≤ 7) ∧ o.key.size ≤ 8 ∧ (0 ≤ o.f ∧ o.f ≤ 1099511627776) ∧ (0 ≤ o.t ∧ o.t ≤ 1099511627776) := by
  unfold OpV.okB opB at h
  have h := of_decide_eq_true h
  simp only [spanP] at h
  have e : (⟨#[]⟩ : ByteArray).size = 0 := rfl
  rcases h with ⟨h1, h2, h3, h4⟩ | ⟨h1, h2, h3, h4, h5⟩ | ⟨h1, h2, h3, h4, h5⟩ | ⟨h1, h2, h3, h4, h5⟩ | ⟨h1, h2, h3, h4⟩ | ⟨h1, h2, h3, h4, h5⟩
  · rw [h3]; omega
  · rw [h3]; omega
  · rw [h3]; omega
  · have := keyB_size h3; omega
  · have := keyB_size h2; omega
  · rw [h2]; omega
theorem opT_bytes {o : OpV} (h : o.okB = true) : bytes (opT o) = o.k :: (varL o.key.size ++ (bytes o.key ++ (varL o.f.toNat ++ (varL o.t.toNat ++ bytes o.d)))) := by
  have hr := okB_rng h
  unfold opT
  rw [bytes_append, bytes_append, bytes_append, bytes_append, bytes_append, bytes_str (by rw [isB_cons]; exact ⟨by omega, isB_nil⟩), varS_ok (x := (o.key.size : Int)) (by unfold okN; omega), varS_ok (x := o.f) (by unfold okN; omega), varS_ok (x := o.t) (by unfold okN; omega),
    bytes_str (varL_isB _), bytes_str (varL_isB _), bytes_str (varL_isB _), Int.toNat_natCast]
  simp only [List.append_assoc, List.singleton_append, List.cons_append, List.nil_append]
theorem rdBytes_app {s : ByteArray} {x t : List Int} (h : bytes s = x ++ t) : ∃ s', rdBytes ⟨s, true⟩ x.length = (strOfNums x, ⟨s', true⟩) ∧ bytes s' = t := by
  have hl := congrArg List.length h
  rw [bytes_length, List.length_append] at hl
  refine ⟨s.extract x.length s.size, ?_, by rw [bytes_tail, h, List.drop_left]⟩
  unfold rdBytes
  rw [if_neg (by simp only [Bool.true_eq_false, false_or]; omega)]
  simp only [Int.toNat_natCast, Prod.mk.injEq, and_true]
  apply str_inj
  have hx : isB x := (isB_append.1 (h ▸ isB_bytes s)).1
  rw [bytes_extract, List.drop_zero, h, List.take_left, bytes_str hx]
theorem rdPiece_app {s : ByteArray} {p : ByteArray} {t : List Int} (hp : p.size ≤ 562949953421311) (h : bytes s = varL p.size ++ (bytes p ++ t)) : ∃ s', rdPiece ⟨s, true⟩ = (p, ⟨s', true⟩) ∧ bytes s' = t := by
  obtain ⟨s1, h1, h2⟩ := rdNum_var (n := (p.size : Int)) (by unfold okN; omega) (by rw [Int.toNat_natCast]; exact h)
  obtain ⟨s2, h3, h4⟩ := rdBytes_app h2
  refine ⟨s2, ?_, h4⟩
  unfold rdPiece
  rw [h1]
  rw [bytes_length, str_bytes] at h3
  exact h3
theorem rdKind_app {s : ByteArray} {b : Int} {t : List Int} (h : bytes s = b :: t) : ∃ s', rdKind ⟨s, true⟩ = (b, ⟨s', true⟩) ∧ bytes s' = t := by
  obtain ⟨s1, h1, h2⟩ := rdBytes_app (x := [b]) (t := t) h
  have hb : isB [b] := (isB_append.1 (show isB ([b] ++ t) by rw [List.singleton_append, ← h]; exact isB_bytes s)).1
  refine ⟨s1, ?_, h2⟩
  unfold rdKind
  have h1 : rdBytes ⟨s, true⟩ 1 = (strOfNums [b], ⟨s1, true⟩) := h1
  rw [h1]
  simp only
  rw [if_neg, byteAt_bytes, bytes_str hb]; rfl
  intro e
  have := congrArg ByteArray.size e
  rw [size_strOfNums] at this
  simp at this
  have e2 : (⟨#[]⟩ : ByteArray).size = 0 := rfl
  omega

/-- The op that a text is; how impl reads it. -/
def ropR (s : ByteArray) : OpV × Rd :=
  (⟨(rdKind ⟨s, true⟩).1, (rdPiece (rdKind ⟨s, true⟩).2).1, (rdNum (rdPiece (rdKind ⟨s, true⟩).2).2).1, (rdNum (rdNum (rdPiece (rdKind ⟨s, true⟩).2).2).2).1, (rdNum (rdNum (rdPiece (rdKind ⟨s, true⟩).2).2).2).2.s⟩,
   (rdNum (rdNum (rdPiece (rdKind ⟨s, true⟩).2).2).2).2)
def OpAt (s : ByteArray) (o : OpV) : Prop := o.okB = true ∧ s = opT o
theorem ropR_of {s : ByteArray} {o : OpV} (h : OpAt s o) : (ropR s).1 = o ∧ (ropR s).2.ok = true := by
  have hr := okB_rng h.1
  have hb : bytes s = _ := h.2 ▸ opT_bytes h.1
  obtain ⟨s1, a1, b1⟩ := rdKind_app hb
  obtain ⟨s2, a2, b2⟩ := rdPiece_app (by omega) b1
  obtain ⟨s3, a3, b3⟩ := rdNum_var (by unfold okN; omega) b2
  obtain ⟨s4, a4, b4⟩ := rdNum_var (by unfold okN; omega) b3
  unfold ropR
  rw [a1]; simp only
  rw [a2]; simp only
  rw [a3]; simp only
  rw [a4]; simp only
  have e : s4 = o.d := str_inj b4
  rw [e]
  exact ⟨rfl, trivial⟩
theorem OpAt.uniq {s : ByteArray} {o o' : OpV} (h : OpAt s o) (h' : OpAt s o') : o = o' := by rw [← (ropR_of h).1, (ropR_of h').1]
open Classical in
noncomputable def rop (s : ByteArray) : OpV × Bool := if h : ∃ o, OpAt s o then (Classical.choose h, true) else (OpV.zero, false)
theorem rop_cases (s : ByteArray) : (∃ o, OpAt s o ∧ rop s = (o, true)) ∨ ((∀ o, ¬OpAt s o) ∧ rop s = (OpV.zero, false)) := by
  unfold rop
  by_cases h : ∃ o, OpAt s o
  · rw [dif_pos h]; exact .inl ⟨_, Classical.choose_spec h, rfl⟩
  · rw [dif_neg h]; exact .inr ⟨fun o ho => h ⟨o, ho⟩, rfl⟩
theorem opS_at {s : ByteArray} {o : OpV} (h : opS o = s) (hs : s ≠ ⟨#[]⟩) : OpAt s o := by
  unfold opS at h
  split at h
  · rename_i hk; exact ⟨hk, h.symm⟩
  · exact absurd h.symm hs
theorem opS_of {s : ByteArray} {o : OpV} (h : OpAt s o) : opS o = s := by unfold opS; rw [if_pos h.1]; exact h.2.symm
theorem rdKind_nil : (rdKind ⟨⟨#[]⟩, true⟩).2.ok = false := by
  have hb : rdBytes ⟨⟨#[]⟩, true⟩ 1 = (⟨#[]⟩, ⟨⟨#[]⟩, false⟩) := by
    unfold rdBytes
    exact if_pos (Or.inr (show ((0 : Nat) : Int) < 1 by omega))
  unfold rdKind
  rw [hb]
theorem rdNum_bad {s : ByteArray} : (rdNum ⟨s, false⟩).2.ok = false := by unfold rdNum; simp
theorem rdNum_badR {r : Rd} (h : r.ok = false) : (rdNum r).2.ok = false := by unfold rdNum; simp [h]
theorem rdBytes_bad {r : Rd} {n : Int} (h : r.ok = false) : (rdBytes r n).2.ok = false := by unfold rdBytes; simp [h]
theorem rdPiece_bad {r : Rd} (h : r.ok = false) : (rdPiece r).2.ok = false := rdBytes_bad (rdNum_badR h)
theorem ropR_nil : (ropR ⟨#[]⟩).2.ok = false := rdNum_badR (rdNum_badR (rdPiece_bad rdKind_nil))
/-- impl.ReadOp's answer. -/
theorem ropI_eq (s : ByteArray) : rop s = if (ropR s).2.ok = true ∧ opS (ropR s).1 = s then ((ropR s).1, true) else (OpV.zero, false) := by
  rcases rop_cases s with ⟨o, h, e⟩ | ⟨h, e⟩
  · rw [e]
    obtain ⟨h1, h2⟩ := ropR_of h
    rw [h1, if_pos ⟨h2, opS_of h⟩]
  · rw [e]
    split
    · rename_i hc
      have hs : s ≠ ⟨#[]⟩ := by
        rintro rfl
        rw [ropR_nil] at hc; simp at hc
      exact absurd (opS_at hc.2 hs) (h _)
    · rfl
/-- How spec reads it. -/
theorem finV_rest {b v r : List Int} {n : Nat} {z : Nat} (h : varsO n b = some (v, r)) (hb : isB b) (hz : b.length ≤ z) : 0 ≤ finV z (varsO n b) ∧ finV z (varsO n b) ≤ z := by
  obtain ⟨_, _, h3⟩ := varsO_some n b v r hb h
  have := congrArg List.length h3
  rw [List.length_append] at this
  rw [h, finV]
  omega
noncomputable def sopR (s : ByteArray) : Option OpV :=
  if finV s.size (varsO 1 ((bytes s).drop 1)) < 0 ∨ 8 < (varsV 1 ((bytes s).drop 1)).getD 0 0 ∨ (s.size : Int) - finV s.size (varsO 1 ((bytes s).drop 1)) < (varsV 1 ((bytes s).drop 1)).getD 0 0 then none
  else if finV s.size (varsO 2 ((bytes s).drop (finV s.size (varsO 1 ((bytes s).drop 1)) + (varsV 1 ((bytes s).drop 1)).getD 0 0).toNat)) < 0 then none
  else some ⟨byteAt s 0, s.extract (finV s.size (varsO 1 ((bytes s).drop 1))).toNat (finV s.size (varsO 1 ((bytes s).drop 1)) + (varsV 1 ((bytes s).drop 1)).getD 0 0).toNat,
    (varsV 2 ((bytes s).drop (finV s.size (varsO 1 ((bytes s).drop 1)) + (varsV 1 ((bytes s).drop 1)).getD 0 0).toNat)).getD 0 0,
    (varsV 2 ((bytes s).drop (finV s.size (varsO 1 ((bytes s).drop 1)) + (varsV 1 ((bytes s).drop 1)).getD 0 0).toNat)).getD 1 0,
    s.extract (finV s.size (varsO 2 ((bytes s).drop (finV s.size (varsO 1 ((bytes s).drop 1)) + (varsV 1 ((bytes s).drop 1)).getD 0 0).toNat))).toNat s.size⟩
theorem varsO_one {x : Nat} (h : x ≤ 562949953421311) (t : List Int) : varsO 1 (varL x ++ t) = some ([(x : Int)], t) := by
  simp only [varsO, rvO_var h, List.drop_left]
theorem varsO_two {x y : Nat} (h : x ≤ 562949953421311) (h2 : y ≤ 562949953421311) (t : List Int) : varsO 2 (varL x ++ (varL y ++ t)) = some ([(x : Int), (y : Int)], t) := by
  simp only [varsO, rvO_var h, List.drop_left, rvO_var h2]
theorem sopR_of {s : ByteArray} {o : OpV} (h : OpAt s o) : sopR s = some o := by
  have hr := okB_rng h.1
  have hb : bytes s = _ := h.2 ▸ opT_bytes h.1
  have hl := congrArg List.length hb
  simp only [bytes_length, List.length_cons, List.length_append] at hl
  have d1 : (bytes s).drop 1 = varL o.key.size ++ (bytes o.key ++ (varL o.f.toNat ++ (varL o.t.toNat ++ bytes o.d))) := by rw [hb]; rfl
  have v1 := varsO_one (x := o.key.size) (by omega) (bytes o.key ++ (varL o.f.toNat ++ (varL o.t.toNat ++ bytes o.d)))
  rw [← d1] at v1
  have w1 := varsV_of _ _ _ _ v1
  have f1 : finV s.size (varsO 1 ((bytes s).drop 1)) = 1 + ((varL o.key.size).length : Int) := by
    rw [v1, finV]; simp only [List.length_append, bytes_length]; omega
  have e1 : (finV s.size (varsO 1 ((bytes s).drop 1)) + (varsV 1 ((bytes s).drop 1)).getD 0 0).toNat = 1 + (varL o.key.size).length + o.key.size := by
    rw [f1, w1]; simp only [List.getD_cons_zero]; omega
  have d2 : (bytes s).drop (1 + (varL o.key.size).length + o.key.size) = varL o.f.toNat ++ (varL o.t.toNat ++ bytes o.d) := by
    rw [← List.drop_drop, ← List.drop_drop, d1, List.drop_left, ← bytes_length o.key, List.drop_left]
  have v2 := varsO_two (x := o.f.toNat) (y := o.t.toNat) (by omega) (by omega) (bytes o.d)
  have w2 := varsV_of _ _ _ _ v2
  have f2 : finV s.size (varsO 2 (varL o.f.toNat ++ (varL o.t.toNat ++ bytes o.d))) = ((1 + (varL o.key.size).length + o.key.size + (varL o.f.toNat).length + (varL o.t.toNat).length : Nat) : Int) := by
    rw [v2, finV, bytes_length]; omega
  unfold sopR
  rw [e1, d2, f2, w2, f1, w1]
  simp only [List.getD_cons_zero, List.getD_cons_succ]
  rw [if_neg (by omega), if_neg (by omega)]
  congr 1
  have k0 : byteAt s 0 = o.k := by rw [byteAt_bytes, hb]; rfl
  have kk : s.extract (1 + ((varL o.key.size).length : Int)).toNat (1 + (varL o.key.size).length + o.key.size) = o.key := by
    apply str_inj
    rw [show (1 + ((varL o.key.size).length : Int)).toNat = 1 + (varL o.key.size).length by omega, bytes_extract, List.drop_take, ← List.drop_drop, d1, List.drop_left,
      show 1 + (varL o.key.size).length + o.key.size - (1 + (varL o.key.size).length) = (bytes o.key).length by rw [bytes_length]; omega, List.take_left]
  have kd : s.extract (((1 + (varL o.key.size).length + o.key.size + (varL o.f.toNat).length + (varL o.t.toNat).length : Nat) : Int)).toNat s.size = o.d := by
    apply str_inj
    rw [bytes_tail, Int.toNat_natCast, ← List.drop_drop, ← List.drop_drop, d2, List.drop_left, List.drop_left]
  rw [k0, kk, kd, show ((o.f.toNat : Nat) : Int) = o.f by omega, show ((o.t.toNat : Nat) : Int) = o.t by omega]
theorem sopR_nil : sopR ⟨#[]⟩ = none := by
  unfold sopR
  rw [if_pos]
  left
  show finV 0 (varsO 1 []) < 0
  have : varsO 1 [] = none := rfl
  rw [this, finV]; omega
theorem ropS_eq (s : ByteArray) : rop s = match sopR s with
    | some o => if opS o = s then (o, true) else (OpV.zero, false)
    | none => (OpV.zero, false) := by
  rcases rop_cases s with ⟨o, h, e⟩ | ⟨h, e⟩
  · rw [e, sopR_of h]
    simp only
    rw [if_pos (opS_of h)]
  · rw [e]
    split
    · rename_i o ho
      split
      · rename_i hc
        have hs : s ≠ ⟨#[]⟩ := by
          rintro rfl
          rw [sopR_nil] at ho; simp at ho
        exact absurd (opS_at hc hs) (h _)
      · rfl
    · rfl
end Go.Eng

namespace Go.Eng
open Go

structure AnsV where
  c : Int
  i : Int
  m : Int
  d : ByteArray
def AnsV.okB (a : AnsV) : Bool := ansB a.c a.i a.m a.d
def AnsV.zero : AnsV := ⟨0, 0, 0, ⟨#[]⟩⟩
def ansT (a : AnsV) : ByteArray := varS a.c ++ varS a.i ++ varS a.m ++ a.d
def ansS (a : AnsV) : ByteArray := if a.okB = true then ansT a else ⟨#[]⟩
theorem ansB_rng {a : AnsV} (h : a.okB = true) : (0 ≤ a.c ∧ a.c ≤ 4) ∧ (0 ≤ a.i ∧ a.i ≤ 100000) ∧ (0 ≤ a.m ∧ a.m ≤ 1099511627776) ∧ (a.d.size : Int) ≤ 900 := by
  unfold AnsV.okB ansB at h
  simpa only [Bool.and_eq_true, decide_eq_true_eq] using h
theorem ansT_bytes {a : AnsV} (h : a.okB = true) : bytes (ansT a) = varL a.c.toNat ++ (varL a.i.toNat ++ (varL a.m.toNat ++ bytes a.d)) := by
  have hr := ansB_rng h
  unfold ansT
  rw [bytes_append, bytes_append, bytes_append, varS_ok (x := a.c) (by unfold okN; omega), varS_ok (x := a.i) (by unfold okN; omega), varS_ok (x := a.m) (by unfold okN; omega),
    bytes_str (varL_isB _), bytes_str (varL_isB _), bytes_str (varL_isB _)]
  simp only [List.append_assoc]
def ransR (s : ByteArray) : AnsV × Rd :=
  (⟨(rdNum ⟨s, true⟩).1, (rdNum (rdNum ⟨s, true⟩).2).1, (rdNum (rdNum (rdNum ⟨s, true⟩).2).2).1, (rdNum (rdNum (rdNum ⟨s, true⟩).2).2).2.s⟩, (rdNum (rdNum (rdNum ⟨s, true⟩).2).2).2)
def AnsAt (s : ByteArray) (a : AnsV) : Prop := a.okB = true ∧ s = ansT a
theorem ransR_of {s : ByteArray} {a : AnsV} (h : AnsAt s a) : (ransR s).1 = a ∧ (ransR s).2.ok = true := by
  have hr := ansB_rng h.1
  have hb : bytes s = _ := h.2 ▸ ansT_bytes h.1
  obtain ⟨s1, a1, b1⟩ := rdNum_var (by unfold okN; omega) hb
  obtain ⟨s2, a2, b2⟩ := rdNum_var (by unfold okN; omega) b1
  obtain ⟨s3, a3, b3⟩ := rdNum_var (by unfold okN; omega) b2
  unfold ransR
  rw [a1]; simp only
  rw [a2]; simp only
  rw [a3]; simp only
  have e : s3 = a.d := str_inj b3
  rw [e]
  exact ⟨rfl, trivial⟩
theorem AnsAt.uniq {s : ByteArray} {o o' : AnsV} (h : AnsAt s o) (h' : AnsAt s o') : o = o' := by rw [← (ransR_of h).1, (ransR_of h').1]
open Classical in
noncomputable def rans (s : ByteArray) : AnsV × Bool := if h : ∃ o, AnsAt s o then (Classical.choose h, true) else (AnsV.zero, false)
theorem rans_cases (s : ByteArray) : (∃ o, AnsAt s o ∧ rans s = (o, true)) ∨ ((∀ o, ¬AnsAt s o) ∧ rans s = (AnsV.zero, false)) := by
  unfold rans
  by_cases h : ∃ o, AnsAt s o
  · rw [dif_pos h]; exact .inl ⟨_, Classical.choose_spec h, rfl⟩
  · rw [dif_neg h]; exact .inr ⟨fun o ho => h ⟨o, ho⟩, rfl⟩
theorem ansS_at {s : ByteArray} {o : AnsV} (h : ansS o = s) (hs : s ≠ ⟨#[]⟩) : AnsAt s o := by
  unfold ansS at h
  split at h
  · rename_i hk; exact ⟨hk, h.symm⟩
  · exact absurd h.symm hs
theorem ansS_of {s : ByteArray} {o : AnsV} (h : AnsAt s o) : ansS o = s := by unfold ansS; rw [if_pos h.1]; exact h.2.symm
theorem rv_nil : rv ⟨#[]⟩ = (0, 0) := rfl
theorem rdNum_nil : (rdNum ⟨⟨#[]⟩, true⟩).2.ok = false := by
  unfold rdNum
  simp only [rv_nil]
  rfl
theorem ransI_eq (s : ByteArray) : rans s = if (ransR s).2.ok = true ∧ ansS (ransR s).1 = s then ((ransR s).1, true) else (AnsV.zero, false) := by
  rcases rans_cases s with ⟨o, h, e⟩ | ⟨h, e⟩
  · rw [e]
    obtain ⟨h1, h2⟩ := ransR_of h
    rw [h1, if_pos ⟨h2, ansS_of h⟩]
  · rw [e]
    split
    · rename_i hc
      have hs : s ≠ ⟨#[]⟩ := by
        rintro rfl
        have : (ransR ⟨#[]⟩).2.ok = false := rdNum_badR (rdNum_badR rdNum_nil)
        rw [this] at hc; simp at hc
      exact absurd (ansS_at hc.2 hs) (h _)
    · rfl
theorem varsO_three {x y z : Nat} (h : x ≤ 562949953421311) (h2 : y ≤ 562949953421311) (h3 : z ≤ 562949953421311) (t : List Int) : varsO 3 (varL x ++ (varL y ++ (varL z ++ t))) = some ([(x : Int), (y : Int), (z : Int)], t) := by
  simp only [varsO, rvO_var h, List.drop_left, rvO_var h2, rvO_var h3]
noncomputable def sansR (s : ByteArray) : Option AnsV :=
  if finV s.size (varsO 3 ((bytes s).drop 0)) < 0 then none
  else some ⟨(varsV 3 ((bytes s).drop 0)).getD 0 0, (varsV 3 ((bytes s).drop 0)).getD 1 0, (varsV 3 ((bytes s).drop 0)).getD 2 0, s.extract (finV s.size (varsO 3 ((bytes s).drop 0))).toNat s.size⟩
theorem sansR_of {s : ByteArray} {o : AnsV} (h : AnsAt s o) : sansR s = some o := by
  have hr := ansB_rng h.1
  have hb : bytes s = _ := h.2 ▸ ansT_bytes h.1
  have hl := congrArg List.length hb
  simp only [bytes_length, List.length_append] at hl
  have v1 := varsO_three (x := o.c.toNat) (y := o.i.toNat) (z := o.m.toNat) (by omega) (by omega) (by omega) (bytes o.d)
  rw [← hb] at v1
  have w1 := varsV_of _ _ _ _ v1
  have f1 : finV s.size (varsO 3 (bytes s)) = (((varL o.c.toNat).length + (varL o.i.toNat).length + (varL o.m.toNat).length : Nat) : Int) := by
    rw [v1, finV, bytes_length]; omega
  unfold sansR
  rw [List.drop_zero, f1, w1]
  simp only [List.getD_cons_zero, List.getD_cons_succ]
  rw [if_neg (by omega)]
  congr 1
  have kd : s.extract (((varL o.c.toNat).length + (varL o.i.toNat).length + (varL o.m.toNat).length : Nat) : Int).toNat s.size = o.d := by
    apply str_inj
    rw [bytes_tail, Int.toNat_natCast, ← List.drop_drop, ← List.drop_drop, hb, List.drop_left, List.drop_left, List.drop_left]
  rw [kd, show ((o.c.toNat : Nat) : Int) = o.c by omega, show ((o.i.toNat : Nat) : Int) = o.i by omega, show ((o.m.toNat : Nat) : Int) = o.m by omega]
theorem ransS_eq (s : ByteArray) : rans s = match sansR s with
    | some o => if ansS o = s then (o, true) else (AnsV.zero, false)
    | none => (AnsV.zero, false) := by
  rcases rans_cases s with ⟨o, h, e⟩ | ⟨h, e⟩
  · rw [e, sansR_of h]
    simp only
    rw [if_pos (ansS_of h)]
  · rw [e]
    split
    · rename_i o ho
      split
      · rename_i hc
        have hs : s ≠ ⟨#[]⟩ := by
          rintro rfl
          have : sansR ⟨#[]⟩ = none := by
            unfold sansR
            have : varsO 3 ((bytes ⟨#[]⟩).drop 0) = none := rfl
            rw [this, finV, if_pos (by omega)]
          rw [this] at ho; simp at ho
        exact absurd (ansS_at hc hs) (h _)
      · rfl
    · rfl
end Go.Eng

namespace Go.Eng
open Go Go.Proofs

theorem g100 (k : Int) (key : ByteArray) (f t : Int) (d : ByteArray) (hyp : key.size ≤ 1152921504606846976 ∧ d.size ≤ 1152921504606846976) : Good Try.prog 100 [⟨.agg, [.int .i64 k, .str key, .int .i64 f, .int .i64 t, .str d]⟩] [] (⟨.one, [.str (opS ⟨k, key, f, t, d⟩)]⟩) [⟨.agg, [.int .i64 k, .str key, .int .i64 f, .int .i64 t, .str d]⟩] [] := by
  refine Good_of (E := envOf [(57, c57), (112, c112)]) (envOk_of ⟨ctr57, ⟨ctr112, trivial⟩⟩) Try.func100 m100 rfl ?_
  have z1 := varS_le key.size
  have z2 := varS_le f
  have z3 := varS_le t
  simp (maxSteps := 1000000) (disch := omega) only [go_sem, wI, wB, x100, r100_0, r100_1, r100_2, r100_3v, r100_3t, Int.toNat_natCast, natS1, natS2, rowsI_at, rowsI_at0, rowsI_get, rowsI_snoc, Nat.mul_one, Nat.div_one, Nat.mod_one, c112_eq]
  repeat' (first | ((with_reducible apply scEnd_of); exact rfl; exact rfl) | ((with_reducible apply ScW_of); rfl; rfl; trivial; (intro h; try simp only [HS] at h)) | ((with_reducible apply Br_of) <;> (intro h; (try simp only [h]); (try simp only [HS] at h))) | ((with_reducible first | refine Opt_put_if ?_ ?_ | refine Opt_if ?_ ?_ | refine Opt_bind_if ?_ ?_ | refine Opt_ifb ?_ ?_); (· (first | omega | (refine ⟨?_, ?_⟩ <;> omega) | (refine ⟨?_, ?_, ?_⟩ <;> omega) | (refine ⟨rfl, ?_⟩; simp only [okBig, Bool.and_eq_true, decide_eq_true_eq]; omega) | (refine Nat.le_trans (Nat.add_le_add_left (varS_le _) _) ?_; simp only [size_strOfNums, List.length_cons, List.length_nil, rowsI_length, ByteArray.size_append]; omega) | (refine ⟨rfl, ?_⟩; simp only [okBig, Bool.and_eq_true, decide_eq_true_eq, size_strOfNums, List.length_cons, List.length_nil, rowsI_length, ByteArray.size_append]; omega) | (simp only [size_strOfNums, List.length_cons, List.length_nil, rowsI_length, ByteArray.size_append]; omega)))) | ((with_reducible refine Opt_bind_ifn ?_ ?_); (· omega)) | simp (maxSteps := 1000000) (disch := omega) only [go_sem, wI, wB, Int.toNat_natCast, natS1, natS2, rowsI_at, rowsI_at0, rowsI_get, rowsI_snoc, Nat.mul_one, Nat.div_one, Nat.mod_one, c112_eq])
  · rw [opS, if_neg (by rw [OpV.okB, h]; simp)]
  · have hk := okB_rng (o := ⟨k, key, f, t, d⟩) h
    simp only at hk
    rw [wB (by omega) (by omega), opS, if_pos (show OpV.okB ⟨k, key, f, t, d⟩ = true from h)]; rfl
noncomputable def c100 : List SV → Refs → Option (SV × List SV × Refs)
  | [⟨.agg, [.int .i64 k, .str key, .int .i64 f, .int .i64 t, .str d]⟩], [] => (open Classical in if key.size ≤ 1152921504606846976 ∧ d.size ≤ 1152921504606846976 then some (⟨.one, [.str (opS ⟨k, key, f, t, d⟩)]⟩, [⟨.agg, [.int .i64 k, .str key, .int .i64 f, .int .i64 t, .str d]⟩], []) else none)
  | _, _ => none
theorem ctr100 : Ctr Try.prog 100 c100 := by
  refine ⟨k100, fun args rf res args' rf' h => ?_⟩
  unfold c100 at h
  split at h
  · split at h
    · rename_i hyp
      simp only [Option.some.injEq, Prod.mk.injEq] at h
      obtain ⟨rfl, rfl, rfl⟩ := h
      exact g100 _ _ _ _ _ hyp
    · simp at h
  · simp at h
theorem c100_eq {k : Int} {key : ByteArray} {f t : Int} {d : ByteArray} (hyp : key.size ≤ 1152921504606846976 ∧ d.size ≤ 1152921504606846976) : c100 [⟨.agg, [.int .i64 k, .str key, .int .i64 f, .int .i64 t, .str d]⟩] [] = some (⟨.one, [.str (opS ⟨k, key, f, t, d⟩)]⟩, [⟨.agg, [.int .i64 k, .str key, .int .i64 f, .int .i64 t, .str d]⟩], []) := if_pos hyp

theorem g94 (k : Int) (key : ByteArray) (f t : Int) (d : ByteArray) (hyp : key.size ≤ 1152921504606846976 ∧ d.size ≤ 1152921504606846976) : Good Try.prog 94 [⟨.agg, [.int .i64 k, .str key, .int .i64 f, .int .i64 t, .str d]⟩] [] (⟨.one, [.str (opS ⟨k, key, f, t, d⟩)]⟩) [⟨.agg, [.int .i64 k, .str key, .int .i64 f, .int .i64 t, .str d]⟩] [] := by
  refine Good_of (E := envOf [(28, c28), (53, c53)]) (envOk_of ⟨ctr28, ⟨ctr53, trivial⟩⟩) Try.func94 m94 rfl ?_
  have z1 := varS_le key.size
  have z2 := varS_le f
  have z3 := varS_le t
  simp (maxSteps := 1000000) (disch := omega) only [go_sem, wI, wB, x94, r94_0, r94_1, r94_2, r94_3v, r94_3t, Int.toNat_natCast, natS1, natS2, rowsI_at, rowsI_at0, rowsI_get, rowsI_snoc, Nat.mul_one, Nat.div_one, Nat.mod_one]
  repeat' (first | ((with_reducible apply scEnd_of); exact rfl; exact rfl) | ((with_reducible apply ScW_of); rfl; rfl; trivial; (intro h; try simp only [HS] at h)) | ((with_reducible apply Br_of) <;> (intro h; (try simp only [h]); (try simp only [HS] at h))) | ((with_reducible first | refine Opt_put_if ?_ ?_ | refine Opt_if ?_ ?_ | refine Opt_bind_if ?_ ?_ | refine Opt_ifb ?_ ?_); (· (first | omega | (refine ⟨?_, ?_⟩ <;> omega) | (refine ⟨?_, ?_, ?_⟩ <;> omega) | (refine ⟨rfl, ?_⟩; simp only [okBig, Bool.and_eq_true, decide_eq_true_eq]; omega) | (refine Nat.le_trans (Nat.add_le_add_left (varS_le _) _) ?_; simp only [size_strOfNums, List.length_cons, List.length_nil, rowsI_length, ByteArray.size_append]; omega) | (refine ⟨rfl, ?_⟩; simp only [okBig, Bool.and_eq_true, decide_eq_true_eq, size_strOfNums, List.length_cons, List.length_nil, rowsI_length, ByteArray.size_append]; omega) | (simp only [size_strOfNums, List.length_cons, List.length_nil, rowsI_length, ByteArray.size_append]; omega)))) | ((with_reducible refine Opt_bind_ifn ?_ ?_); (· omega)) | simp (maxSteps := 1000000) (disch := omega) only [go_sem, wI, wB, Int.toNat_natCast, natS1, natS2, rowsI_at, rowsI_at0, rowsI_get, rowsI_snoc, Nat.mul_one, Nat.div_one, Nat.mod_one])
  · rw [opS, if_neg (by rw [OpV.okB, h]; simp)]
  · have hk := okB_rng (o := ⟨k, key, f, t, d⟩) h
    simp only at hk
    rw [wB (by omega) (by omega), opS, if_pos (show OpV.okB ⟨k, key, f, t, d⟩ = true from h)]; rfl
noncomputable def c94 : List SV → Refs → Option (SV × List SV × Refs)
  | [⟨.agg, [.int .i64 k, .str key, .int .i64 f, .int .i64 t, .str d]⟩], [] => (open Classical in if key.size ≤ 1152921504606846976 ∧ d.size ≤ 1152921504606846976 then some (⟨.one, [.str (opS ⟨k, key, f, t, d⟩)]⟩, [⟨.agg, [.int .i64 k, .str key, .int .i64 f, .int .i64 t, .str d]⟩], []) else none)
  | _, _ => none
theorem ctr94 : Ctr Try.prog 94 c94 := by
  refine ⟨k94, fun args rf res args' rf' h => ?_⟩
  unfold c94 at h
  split at h
  · split at h
    · rename_i hyp
      simp only [Option.some.injEq, Prod.mk.injEq] at h
      obtain ⟨rfl, rfl, rfl⟩ := h
      exact g94 _ _ _ _ _ hyp
    · simp at h
  · simp at h
theorem c94_eq {k : Int} {key : ByteArray} {f t : Int} {d : ByteArray} (hyp : key.size ≤ 1152921504606846976 ∧ d.size ≤ 1152921504606846976) : c94 [⟨.agg, [.int .i64 k, .str key, .int .i64 f, .int .i64 t, .str d]⟩] [] = some (⟨.one, [.str (opS ⟨k, key, f, t, d⟩)]⟩, [⟨.agg, [.int .i64 k, .str key, .int .i64 f, .int .i64 t, .str d]⟩], []) := if_pos hyp

theorem g113 (c i m : Int) (d : ByteArray) : Good Try.prog 113 [⟨.agg, [.int .i64 c, .int .i64 i, .int .i64 m, .str d]⟩] [] (⟨.one, [.bool (ansB c i m d)]⟩) [⟨.agg, [.int .i64 c, .int .i64 i, .int .i64 m, .str d]⟩] [] := by
  refine Good_of (E := envOf [(31, c31), (32, c32)]) (envOk_of ⟨ctr31, ⟨ctr32, trivial⟩⟩) Try.func113 m113 rfl ?_
  simp (maxSteps := 1000000) (disch := omega) only [go_sem, wI, wB, x113, r113_0, r113_1, Int.toNat_natCast, natS1, natS2, rowsI_at, rowsI_at0, rowsI_get, rowsI_snoc, Nat.mul_one, Nat.div_one, Nat.mod_one]
  repeat' (first | ((with_reducible apply scEnd_of); exact rfl; exact rfl) | ((with_reducible apply ScW_of); rfl; rfl; trivial; (intro h; try simp only [HS] at h)) | ((with_reducible apply Br_of) <;> (intro h; (try simp only [h]); (try simp only [HS] at h))) | ((with_reducible first | refine Opt_put_if ?_ ?_ | refine Opt_if ?_ ?_ | refine Opt_bind_if ?_ ?_ | refine Opt_ifb ?_ ?_); (· (first | omega | (refine ⟨?_, ?_⟩ <;> omega) | (refine ⟨?_, ?_, ?_⟩ <;> omega) | (refine ⟨rfl, ?_⟩; simp only [okBig, Bool.and_eq_true, decide_eq_true_eq]; omega) | (refine Nat.le_trans (Nat.add_le_add_left (varS_le _) _) ?_; simp only [size_strOfNums, List.length_cons, List.length_nil, rowsI_length, ByteArray.size_append]; omega) | (refine ⟨rfl, ?_⟩; simp only [okBig, Bool.and_eq_true, decide_eq_true_eq, size_strOfNums, List.length_cons, List.length_nil, rowsI_length, ByteArray.size_append]; omega) | (simp only [size_strOfNums, List.length_cons, List.length_nil, rowsI_length, ByteArray.size_append]; omega)))) | ((with_reducible refine Opt_bind_ifn ?_ ?_); (· omega)) | simp (maxSteps := 1000000) (disch := omega) only [go_sem, wI, wB, Int.toNat_natCast, natS1, natS2, rowsI_at, rowsI_at0, rowsI_get, rowsI_snoc, Nat.mul_one, Nat.div_one, Nat.mod_one])
  all_goals (simp only [ansB, Bool.and_assoc])
noncomputable def c113 : List SV → Refs → Option (SV × List SV × Refs)
  | [⟨.agg, [.int .i64 c, .int .i64 i, .int .i64 m, .str d]⟩], [] => some (⟨.one, [.bool (ansB c i m d)]⟩, [⟨.agg, [.int .i64 c, .int .i64 i, .int .i64 m, .str d]⟩], [])
  | _, _ => none
theorem ctr113 : Ctr Try.prog 113 c113 := by
  refine ⟨k113, fun args rf res args' rf' h => ?_⟩
  unfold c113 at h
  split at h
  · simp only [Option.some.injEq, Prod.mk.injEq] at h
    obtain ⟨rfl, rfl, rfl⟩ := h
    exact g113 _ _ _ _
  · simp at h
@[go_sem] theorem c113_eq {c i m : Int} {d : ByteArray} : c113 [⟨.agg, [.int .i64 c, .int .i64 i, .int .i64 m, .str d]⟩] [] = some (⟨.one, [.bool (ansB c i m d)]⟩, [⟨.agg, [.int .i64 c, .int .i64 i, .int .i64 m, .str d]⟩], []) := rfl

theorem g105 (c i m : Int) (d : ByteArray) : Good Try.prog 105 [⟨.agg, [.int .i64 c, .int .i64 i, .int .i64 m, .str d]⟩] [] (⟨.one, [.bool (ansB c i m d)]⟩) [⟨.agg, [.int .i64 c, .int .i64 i, .int .i64 m, .str d]⟩] [] := by
  refine Good_of (E := envOf [(36, c36)]) (envOk_of ⟨ctr36, trivial⟩) Try.func105 m105 rfl ?_
  simp (maxSteps := 1000000) (disch := omega) only [go_sem, wI, wB, x105, r105_0, r105_1, Int.toNat_natCast, natS1, natS2, rowsI_at, rowsI_at0, rowsI_get, rowsI_snoc, Nat.mul_one, Nat.div_one, Nat.mod_one]
  repeat' (first | ((with_reducible apply scEnd_of); exact rfl; exact rfl) | ((with_reducible apply ScW_of); rfl; rfl; trivial; (intro h; try simp only [HS] at h)) | ((with_reducible apply Br_of) <;> (intro h; (try simp only [h]); (try simp only [HS] at h))) | ((with_reducible first | refine Opt_put_if ?_ ?_ | refine Opt_if ?_ ?_ | refine Opt_bind_if ?_ ?_ | refine Opt_ifb ?_ ?_); (· (first | omega | (refine ⟨?_, ?_⟩ <;> omega) | (refine ⟨?_, ?_, ?_⟩ <;> omega) | (refine ⟨rfl, ?_⟩; simp only [okBig, Bool.and_eq_true, decide_eq_true_eq]; omega) | (refine Nat.le_trans (Nat.add_le_add_left (varS_le _) _) ?_; simp only [size_strOfNums, List.length_cons, List.length_nil, rowsI_length, ByteArray.size_append]; omega) | (refine ⟨rfl, ?_⟩; simp only [okBig, Bool.and_eq_true, decide_eq_true_eq, size_strOfNums, List.length_cons, List.length_nil, rowsI_length, ByteArray.size_append]; omega) | (simp only [size_strOfNums, List.length_cons, List.length_nil, rowsI_length, ByteArray.size_append]; omega)))) | ((with_reducible refine Opt_bind_ifn ?_ ?_); (· omega)) | simp (maxSteps := 1000000) (disch := omega) only [go_sem, wI, wB, Int.toNat_natCast, natS1, natS2, rowsI_at, rowsI_at0, rowsI_get, rowsI_snoc, Nat.mul_one, Nat.div_one, Nat.mod_one])
  all_goals (simp only [ansB, Bool.and_assoc])
noncomputable def c105 : List SV → Refs → Option (SV × List SV × Refs)
  | [⟨.agg, [.int .i64 c, .int .i64 i, .int .i64 m, .str d]⟩], [] => some (⟨.one, [.bool (ansB c i m d)]⟩, [⟨.agg, [.int .i64 c, .int .i64 i, .int .i64 m, .str d]⟩], [])
  | _, _ => none
theorem ctr105 : Ctr Try.prog 105 c105 := by
  refine ⟨k105, fun args rf res args' rf' h => ?_⟩
  unfold c105 at h
  split at h
  · simp only [Option.some.injEq, Prod.mk.injEq] at h
    obtain ⟨rfl, rfl, rfl⟩ := h
    exact g105 _ _ _ _
  · simp at h
@[go_sem] theorem c105_eq {c i m : Int} {d : ByteArray} : c105 [⟨.agg, [.int .i64 c, .int .i64 i, .int .i64 m, .str d]⟩] [] = some (⟨.one, [.bool (ansB c i m d)]⟩, [⟨.agg, [.int .i64 c, .int .i64 i, .int .i64 m, .str d]⟩], []) := rfl

theorem g101 (c i m : Int) (d : ByteArray) (hyp : d.size ≤ 1152921504606846976) : Good Try.prog 101 [⟨.agg, [.int .i64 c, .int .i64 i, .int .i64 m, .str d]⟩] [] (⟨.one, [.str (ansS ⟨c, i, m, d⟩)]⟩) [⟨.agg, [.int .i64 c, .int .i64 i, .int .i64 m, .str d]⟩] [] := by
  refine Good_of (E := envOf [(57, c57), (113, c113)]) (envOk_of ⟨ctr57, ⟨ctr113, trivial⟩⟩) Try.func101 m101 rfl ?_
  have z1 := varS_le c
  have z2 := varS_le i
  have z3 := varS_le m
  simp (maxSteps := 1000000) (disch := omega) only [go_sem, wI, wB, x101, r101_0, r101_1, r101_2, r101_3v, r101_3t, Int.toNat_natCast, natS1, natS2, rowsI_at, rowsI_at0, rowsI_get, rowsI_snoc, Nat.mul_one, Nat.div_one, Nat.mod_one]
  repeat' (first | ((with_reducible apply scEnd_of); exact rfl; exact rfl) | ((with_reducible apply ScW_of); rfl; rfl; trivial; (intro h; try simp only [HS] at h)) | ((with_reducible apply Br_of) <;> (intro h; (try simp only [h]); (try simp only [HS] at h))) | ((with_reducible first | refine Opt_put_if ?_ ?_ | refine Opt_if ?_ ?_ | refine Opt_bind_if ?_ ?_ | refine Opt_ifb ?_ ?_); (· (first | omega | (refine ⟨?_, ?_⟩ <;> omega) | (refine ⟨?_, ?_, ?_⟩ <;> omega) | (refine ⟨rfl, ?_⟩; simp only [okBig, Bool.and_eq_true, decide_eq_true_eq]; omega) | (refine Nat.le_trans (Nat.add_le_add_left (varS_le _) _) ?_; simp only [size_strOfNums, List.length_cons, List.length_nil, rowsI_length, ByteArray.size_append]; omega) | (refine ⟨rfl, ?_⟩; simp only [okBig, Bool.and_eq_true, decide_eq_true_eq, size_strOfNums, List.length_cons, List.length_nil, rowsI_length, ByteArray.size_append]; omega) | (simp only [size_strOfNums, List.length_cons, List.length_nil, rowsI_length, ByteArray.size_append]; omega)))) | ((with_reducible refine Opt_bind_ifn ?_ ?_); (· omega)) | simp (maxSteps := 1000000) (disch := omega) only [go_sem, wI, wB, Int.toNat_natCast, natS1, natS2, rowsI_at, rowsI_at0, rowsI_get, rowsI_snoc, Nat.mul_one, Nat.div_one, Nat.mod_one])
  · rw [ansS, if_neg (by rw [AnsV.okB, h]; simp)]
  · rw [ansS, if_pos (show AnsV.okB ⟨c, i, m, d⟩ = true from h)]; rfl
noncomputable def c101 : List SV → Refs → Option (SV × List SV × Refs)
  | [⟨.agg, [.int .i64 c, .int .i64 i, .int .i64 m, .str d]⟩], [] => (open Classical in if d.size ≤ 1152921504606846976 then some (⟨.one, [.str (ansS ⟨c, i, m, d⟩)]⟩, [⟨.agg, [.int .i64 c, .int .i64 i, .int .i64 m, .str d]⟩], []) else none)
  | _, _ => none
theorem ctr101 : Ctr Try.prog 101 c101 := by
  refine ⟨k101, fun args rf res args' rf' h => ?_⟩
  unfold c101 at h
  split at h
  · split at h
    · rename_i hyp
      simp only [Option.some.injEq, Prod.mk.injEq] at h
      obtain ⟨rfl, rfl, rfl⟩ := h
      exact g101 _ _ _ _ hyp
    · simp at h
  · simp at h
theorem c101_eq {c i m : Int} {d : ByteArray} (hyp : d.size ≤ 1152921504606846976) : c101 [⟨.agg, [.int .i64 c, .int .i64 i, .int .i64 m, .str d]⟩] [] = some (⟨.one, [.str (ansS ⟨c, i, m, d⟩)]⟩, [⟨.agg, [.int .i64 c, .int .i64 i, .int .i64 m, .str d]⟩], []) := if_pos hyp

theorem g95 (c i m : Int) (d : ByteArray) (hyp : d.size ≤ 1152921504606846976) : Good Try.prog 95 [⟨.agg, [.int .i64 c, .int .i64 i, .int .i64 m, .str d]⟩] [] (⟨.one, [.str (ansS ⟨c, i, m, d⟩)]⟩) [⟨.agg, [.int .i64 c, .int .i64 i, .int .i64 m, .str d]⟩] [] := by
  refine Good_of (E := envOf [(105, c105), (53, c53)]) (envOk_of ⟨ctr105, ⟨ctr53, trivial⟩⟩) Try.func95 m95 rfl ?_
  have z1 := varS_le c
  have z2 := varS_le i
  have z3 := varS_le m
  simp (maxSteps := 1000000) (disch := omega) only [go_sem, wI, wB, x95, r95_0, r95_1, r95_2, r95_3v, r95_3t, Int.toNat_natCast, natS1, natS2, rowsI_at, rowsI_at0, rowsI_get, rowsI_snoc, Nat.mul_one, Nat.div_one, Nat.mod_one]
  repeat' (first | ((with_reducible apply scEnd_of); exact rfl; exact rfl) | ((with_reducible apply ScW_of); rfl; rfl; trivial; (intro h; try simp only [HS] at h)) | ((with_reducible apply Br_of) <;> (intro h; (try simp only [h]); (try simp only [HS] at h))) | ((with_reducible first | refine Opt_put_if ?_ ?_ | refine Opt_if ?_ ?_ | refine Opt_bind_if ?_ ?_ | refine Opt_ifb ?_ ?_); (· (first | omega | (refine ⟨?_, ?_⟩ <;> omega) | (refine ⟨?_, ?_, ?_⟩ <;> omega) | (refine ⟨rfl, ?_⟩; simp only [okBig, Bool.and_eq_true, decide_eq_true_eq]; omega) | (refine Nat.le_trans (Nat.add_le_add_left (varS_le _) _) ?_; simp only [size_strOfNums, List.length_cons, List.length_nil, rowsI_length, ByteArray.size_append]; omega) | (refine ⟨rfl, ?_⟩; simp only [okBig, Bool.and_eq_true, decide_eq_true_eq, size_strOfNums, List.length_cons, List.length_nil, rowsI_length, ByteArray.size_append]; omega) | (simp only [size_strOfNums, List.length_cons, List.length_nil, rowsI_length, ByteArray.size_append]; omega)))) | ((with_reducible refine Opt_bind_ifn ?_ ?_); (· omega)) | simp (maxSteps := 1000000) (disch := omega) only [go_sem, wI, wB, Int.toNat_natCast, natS1, natS2, rowsI_at, rowsI_at0, rowsI_get, rowsI_snoc, Nat.mul_one, Nat.div_one, Nat.mod_one])
  · rw [ansS, if_neg (by rw [AnsV.okB, h]; simp)]
  · rw [ansS, if_pos (show AnsV.okB ⟨c, i, m, d⟩ = true from h)]; rfl
noncomputable def c95 : List SV → Refs → Option (SV × List SV × Refs)
  | [⟨.agg, [.int .i64 c, .int .i64 i, .int .i64 m, .str d]⟩], [] => (open Classical in if d.size ≤ 1152921504606846976 then some (⟨.one, [.str (ansS ⟨c, i, m, d⟩)]⟩, [⟨.agg, [.int .i64 c, .int .i64 i, .int .i64 m, .str d]⟩], []) else none)
  | _, _ => none
theorem ctr95 : Ctr Try.prog 95 c95 := by
  refine ⟨k95, fun args rf res args' rf' h => ?_⟩
  unfold c95 at h
  split at h
  · split at h
    · rename_i hyp
      simp only [Option.some.injEq, Prod.mk.injEq] at h
      obtain ⟨rfl, rfl, rfl⟩ := h
      exact g95 _ _ _ _ hyp
    · simp at h
  · simp at h
theorem c95_eq {c i m : Int} {d : ByteArray} (hyp : d.size ≤ 1152921504606846976) : c95 [⟨.agg, [.int .i64 c, .int .i64 i, .int .i64 m, .str d]⟩] [] = some (⟨.one, [.str (ansS ⟨c, i, m, d⟩)]⟩, [⟨.agg, [.int .i64 c, .int .i64 i, .int .i64 m, .str d]⟩], []) := if_pos hyp

theorem g79 (s : ByteArray) (a n : Int) (hyp : (s.size ≤ 1152921504606846976 ∧ 1 ≤ n ∧ n ≤ 1000) ∧ 0 ≤ a ∧ a ≤ 1152921504606846976) : Good Try.prog 79 [⟨.one, [.str s]⟩, ⟨.one, [.int .i64 a]⟩, ⟨.one, [.int .i64 n]⟩] [] (⟨.tup [(false, 1), (false, 1)], [.own 1 (rowsI (varsV n.toNat ((bytes s).drop a.toNat))), .int .i64 (finV s.size (varsO n.toNat ((bytes s).drop a.toNat)))]⟩) [⟨.one, [.str s]⟩, ⟨.one, [.int .i64 a]⟩, ⟨.one, [.int .i64 n]⟩] [] := by
  refine Good_of (E := envOf [(116, c116)]) (envOk_of ⟨ctr116, trivial⟩) Try.func79 m79 rfl ?_
  simp (maxSteps := 1000000) (disch := omega) only [go_sem, wI, wB, x79, r79_0, r79_1, r79_2, r79_3, r79_5, r79_6, r79_7, r79_8, r79_9, r79_10, r79_11, r79_4, r79_12, Int.toNat_natCast, natS1, natS2, rowsI_at, rowsI_at0, rowsI_get, rowsI_snoc, Nat.mul_one, Nat.div_one, Nat.mod_one]
  refine LoopK_of (α := Nat × Nat × List Int) (fun p => ⟨[(9, i64 p.1), (8, ⟨.one, [.own 1 (rowsI p.2.2)]⟩), (2, i64 n), (1, i64 p.2.1), (0, st1 s)], [], [(0, st1 s), (1, i64 a), (2, i64 n)]⟩) (fun p => p.1 ≤ n.toNat ∧ (0 < p.1 → p.2.1 ≤ s.size) ∧ (p.1 = 0 → p.2.1 = a.toNat) ∧ p.2.2.length = p.1 ∧ p.2.2 ++ varsV (n.toNat - p.1) ((bytes s).drop p.2.1) = varsV n.toNat ((bytes s).drop a.toNat) ∧ finV s.size (varsO (n.toNat - p.1) ((bytes s).drop p.2.1)) = finV s.size (varsO n.toNat ((bytes s).drop a.toNat))) (fun p => n.toNat - p.1) (0, a.toNat, []) ?h0 ⟨by simp, by simp, by simp, rfl, by simp, by simp⟩ ?_
  case h0 => rw [show ((a.toNat : Nat) : Int) = a by omega]; rfl
  rintro ⟨i, b, o⟩ ⟨h1, h2, h7, h3, h4, h5⟩
  simp only at h1 h2 h3 h4 h5 h7
  rcases hq : rvO ((bytes s).drop b) with _ | ⟨x, k⟩
  · have hrv : rv (s.extract b s.size) = (0, 0) := by unfold rv; rw [bytes_tail, hq]
    simp (maxSteps := 1000000) (disch := omega) only [go_sem, wI, wB, x79, r79_0, r79_1, r79_2, r79_3, r79_5, r79_6, r79_7, r79_8, r79_9, r79_10, r79_11, r79_4, r79_12, Int.toNat_natCast, natS1, natS2, rowsI_at, rowsI_at0, rowsI_get, rowsI_snoc, Nat.mul_one, Nat.div_one, Nat.mod_one]
    repeat' (first | ((with_reducible apply scEnd_of); exact rfl; exact rfl) | ((with_reducible apply ScW_of); rfl; rfl; trivial; (intro h; try simp only [HS] at h)) | ((with_reducible apply Br_of) <;> (intro h; (try simp only [h]); (try simp only [HS] at h))) | ((with_reducible first | refine Opt_put_if ?_ ?_ | refine Opt_if ?_ ?_ | refine Opt_bind_if ?_ ?_ | refine Opt_ifb ?_ ?_); (· (first | omega | (refine ⟨?_, ?_⟩ <;> omega) | (refine ⟨?_, ?_, ?_⟩ <;> omega) | (refine ⟨rfl, ?_⟩; simp only [okBig, Bool.and_eq_true, decide_eq_true_eq]; omega)))) | ((with_reducible refine Opt_bind_ifn ?_ ?_); (· omega)) | simp (maxSteps := 1000000) (disch := omega) only [go_sem, wI, wB, Int.toNat_natCast, natS1, natS2, rowsI_at, rowsI_at0, rowsI_get, rowsI_snoc, Nat.mul_one, Nat.div_one, Nat.mod_one, hrv])
    all_goals (try (exfalso; omega))
    · rw [show n.toNat - i = (n.toNat - i - 1) + 1 by omega, (varsV_none hq).1, List.append_nil] at h4
      rw [show n.toNat - i = (n.toNat - i - 1) + 1 by omega, (varsV_none hq).2] at h5
      rw [← h4, ← h5]; rfl
    · rw [show n.toNat - i = (n.toNat - i - 1) + 1 by omega, (varsV_none hq).1, List.append_nil] at h4
      rw [show n.toNat - i = (n.toNat - i - 1) + 1 by omega, (varsV_none hq).2] at h5
      rw [← h4, ← h5]; rfl
    · rw [show n.toNat - i = 0 by omega] at h4 h5
      have h6 : finV s.size (varsO 0 ((bytes s).drop b)) = (b : Int) := by simp only [varsO, finV, List.length_drop, bytes_length]; omega
      rw [h6] at h5
      simp only [varsV, List.append_nil] at h4
      rw [← h4, ← h5]
  · have hrv : rv (s.extract b s.size) = ((x : Int), (k : Int)) := by unfold rv; rw [bytes_tail, hq]
    obtain ⟨k1, k2, k3, k4⟩ := rvO_some (isB_drop (isB_bytes s) b) hq
    rw [List.length_drop, bytes_length] at k2
    simp (maxSteps := 1000000) (disch := omega) only [go_sem, wI, wB, x79, r79_0, r79_1, r79_2, r79_3, r79_5, r79_6, r79_7, r79_8, r79_9, r79_10, r79_11, r79_4, r79_12, Int.toNat_natCast, natS1, natS2, rowsI_at, rowsI_at0, rowsI_get, rowsI_snoc, Nat.mul_one, Nat.div_one, Nat.mod_one]
    repeat' (first | ((with_reducible apply scEnd_of); exact rfl; exact rfl) | ((with_reducible apply ScW_of); rfl; rfl; trivial; (intro h; try simp only [HS] at h)) | ((with_reducible apply Br_of) <;> (intro h; (try simp only [h]); (try simp only [HS] at h))) | ((with_reducible first | refine Opt_put_if ?_ ?_ | refine Opt_if ?_ ?_ | refine Opt_bind_if ?_ ?_ | refine Opt_ifb ?_ ?_); (· (first | omega | (refine ⟨?_, ?_⟩ <;> omega) | (refine ⟨?_, ?_, ?_⟩ <;> omega) | (refine ⟨rfl, ?_⟩; simp only [okBig, Bool.and_eq_true, decide_eq_true_eq]; omega) | (refine Nat.le_trans (Nat.add_le_add_left (varS_le _) _) ?_; simp only [size_strOfNums, List.length_cons, List.length_nil, rowsI_length, ByteArray.size_append]; omega) | (refine ⟨rfl, ?_⟩; simp only [okBig, Bool.and_eq_true, decide_eq_true_eq, size_strOfNums, List.length_cons, List.length_nil, rowsI_length, ByteArray.size_append]; omega) | (simp only [size_strOfNums, List.length_cons, List.length_nil, rowsI_length, ByteArray.size_append]; omega)))) | ((with_reducible refine Opt_bind_ifn ?_ ?_); (· omega)) | simp (maxSteps := 1000000) (disch := omega) only [go_sem, wI, wB, Int.toNat_natCast, natS1, natS2, rowsI_at, rowsI_at0, rowsI_get, rowsI_snoc, Nat.mul_one, Nat.div_one, Nat.mod_one, hrv])
    all_goals (try (exfalso; omega))
    · rw [show n.toNat - i = (n.toNat - (i + 1)) + 1 by omega, varsV_step hq, List.drop_drop] at h4
      rw [show n.toNat - i = (n.toNat - (i + 1)) + 1 by omega, finV_step hq, List.drop_drop] at h5
      refine LoopQ_of (i + 1, b + k, o ++ [(x : Int)]) rfl ⟨by simp only; omega, by simp only; omega, by simp only; omega, by simp [h3], ?_, h5⟩ (by simp only; omega)
      rw [← h4]; simp
    · rw [show n.toNat - i = 0 by omega] at h4 h5
      have h6 : finV s.size (varsO 0 ((bytes s).drop b)) = (b : Int) := by simp only [varsO, finV, List.length_drop, bytes_length]; omega
      rw [h6] at h5
      simp only [varsV, List.append_nil] at h4
      rw [← h4, ← h5]
noncomputable def c79 : List SV → Refs → Option (SV × List SV × Refs)
  | [⟨.one, [.str s]⟩, ⟨.one, [.int .i64 a]⟩, ⟨.one, [.int .i64 n]⟩], [] => (open Classical in if (s.size ≤ 1152921504606846976 ∧ 1 ≤ n ∧ n ≤ 1000) ∧ 0 ≤ a ∧ a ≤ 1152921504606846976 then some (⟨.tup [(false, 1), (false, 1)], [.own 1 (rowsI (varsV n.toNat ((bytes s).drop a.toNat))), .int .i64 (finV s.size (varsO n.toNat ((bytes s).drop a.toNat)))]⟩, [⟨.one, [.str s]⟩, ⟨.one, [.int .i64 a]⟩, ⟨.one, [.int .i64 n]⟩], []) else none)
  | _, _ => none
theorem ctr79 : Ctr Try.prog 79 c79 := by
  refine ⟨k79, fun args rf res args' rf' h => ?_⟩
  unfold c79 at h
  split at h
  · split at h
    · rename_i hyp
      simp only [Option.some.injEq, Prod.mk.injEq] at h
      obtain ⟨rfl, rfl, rfl⟩ := h
      exact g79 _ _ _ hyp
    · simp at h
  · simp at h
theorem c79_eq {s : ByteArray} {a n : Int} (hyp : (s.size ≤ 1152921504606846976 ∧ 1 ≤ n ∧ n ≤ 1000) ∧ 0 ≤ a ∧ a ≤ 1152921504606846976) : c79 [⟨.one, [.str s]⟩, ⟨.one, [.int .i64 a]⟩, ⟨.one, [.int .i64 n]⟩] [] = some (⟨.tup [(false, 1), (false, 1)], [.own 1 (rowsI (varsV n.toNat ((bytes s).drop a.toNat))), .int .i64 (finV s.size (varsO n.toNat ((bytes s).drop a.toNat)))]⟩, [⟨.one, [.str s]⟩, ⟨.one, [.int .i64 a]⟩, ⟨.one, [.int .i64 n]⟩], []) := if_pos hyp

end Go.Eng

namespace Go.Eng
open Go Go.Proofs

/-- Entries as a list's rows. -/
abbrev EV := Int × ByteArray
def eZ : EV := (0, ⟨#[]⟩)
def rowsE (l : List EV) : List (List D) := l.map fun p => [.int .i64 p.1, .str p.2]
@[go_sem] theorem rowsE_length (l : List EV) : (rowsE l).length = l.length := by simp [rowsE]
@[simp] theorem rowsE_inj {a b : List EV} : rowsE a = rowsE b ↔ a = b := ⟨fun h => map_inj (by rintro ⟨a, b⟩ ⟨c, d⟩ h; simpa using h) h, fun h => by rw [h]⟩
theorem rowsE_snoc (l : List EV) (a : Int) (b : ByteArray) : rowsE l ++ [[.int .i64 a, .str b]] = rowsE (l ++ [(a, b)]) := by simp [rowsE]
theorem rowsE_at {l : List EV} {i : Nat} (h : i < l.length) : ((rowsE l).drop i).flatten = .int .i64 (l.getD i eZ).1 :: .str (l.getD i eZ).2 :: rowsT (rowsE l) i := by
  have h' : i < (rowsE l).length := by rw [rowsE_length]; exact h
  rw [List.drop_eq_getElem_cons h', List.flatten_cons]
  simp [rowsE, rowsT, List.getD, h]
theorem rowsE_get {l : List EV} {i : Nat} (h : i < l.length) : (rowsE l)[i]? = some [.int .i64 (l.getD i eZ).1, .str (l.getD i eZ).2] := by
  simp [rowsE, List.getD, h]
theorem drop_getD {α : Type} {l : List α} {i : Nat} (z : α) (h : i < l.length) : l.drop i = l.getD i z :: l.drop (i + 1) := by
  rw [List.drop_eq_getElem_cons h]; simp [List.getD, h]
theorem getD_mem {α : Type} {l : List α} {i : Nat} (z : α) (h : i < l.length) : l.getD i z ∈ l := by
  simp only [List.getD, List.getElem?_eq_getElem h, Option.getD_some]; exact List.getElem_mem h
def szB (b : ByteArray) (n : Int) : Int := if n - b.size < 0 then -1 else n - b.size
def szEL : List EV → Int → Int
  | [], n => n
  | e :: t, n => if n - e.2.size < 0 then -1 else szEL t (n - e.2.size)
def szES (l : List EV) (n : Int) : Int := if n - l.length < 0 then -1 else szEL l (n - l.length)
theorem szEL_rng : ∀ (l : List EV) (n : Int), 0 ≤ n → szEL l n ≤ n ∧ (0 ≤ szEL l n → ∀ e ∈ l, (e.2.size : Int) ≤ n)
  | [], n, h => by simp [szEL]
  | e :: t, n, h => by
    simp only [szEL]
    split
    · exact ⟨by omega, fun hh => by omega⟩
    · have ih := szEL_rng t (n - e.2.size) (by omega)
      refine ⟨by omega, fun hh x hx => ?_⟩
      rcases List.mem_cons.1 hx with rfl | hx
      · omega
      · have := ih.2 hh x hx; omega
theorem szES_rng {l : List EV} {n : Int} (h : 0 ≤ n) : szES l n ≤ n ∧ (0 ≤ szES l n → (l.length : Int) ≤ n ∧ ∀ e ∈ l, (e.2.size : Int) ≤ n) := by
  unfold szES
  split
  · exact ⟨by omega, fun hh => by omega⟩
  · have ih := szEL_rng l (n - l.length) (by omega)
    refine ⟨by omega, fun hh => ⟨by omega, fun e he => ?_⟩⟩
    have := ih.2 hh e he
    omega
def runB (low high : Int) : List EV → Bool
  | [] => true
  | e :: t => decide (1 ≤ e.1) && (decide (low ≤ e.1) && decide (e.1 ≤ high)) && decide ((e.2.size : Int) ≤ 900) && runB e.1 high t
theorem runB_low (low high : Int) : ∀ l, runB low high l = runB (if low < 1 then 1 else low) high l
  | [] => rfl
  | e :: t => by
    simp only [runB]
    congr 2
    rw [Bool.eq_iff_iff]
    simp only [Bool.and_eq_true, decide_eq_true_eq]
    split <;> omega
def eqE (l m : List EV) : Bool := decide (l = m)

attribute [go_sem] elemSt modP
theorem modify_row {α : Type} {l : List α} {i : Nat} {f : α → α} {r : α} (h : l[i]? = some r) : l.modify i f = l.set i (f r) := by
  apply List.ext_getElem?
  intro j
  rw [List.getElem?_modify, List.getElem?_set]
  obtain ⟨hi, rfl⟩ := List.getElem?_eq_some_iff.1 h
  by_cases hj : i = j
  · subst hj; simp [hi]
  · simp [hj]
theorem setCells_row {sz i : Nat} : ∀ (ds : List D) (rows : List (List D)) (j : Nat) (r : List D), rows[i]? = some r → r.length = sz → j + ds.length ≤ sz → setCells sz rows (i * sz + j) ds = rows.set i (r.take j ++ ds ++ r.drop (j + ds.length))
  | [], rows, j, r, hr, hl, hj => by
    obtain ⟨hi, rfl⟩ := List.getElem?_eq_some_iff.1 hr
    simp [setCells]
  | d :: ds, rows, j, r, hr, hl, hj => by
    have hi : i < rows.length := (List.getElem?_eq_some_iff.1 hr).1
    simp only [List.length_cons] at hj
    have hd : (i * sz + j) / sz = i := by rw [Nat.mul_comm, Nat.mul_add_div (by omega), Nat.div_eq_of_lt (by omega), Nat.add_zero]
    have hm : (i * sz + j) % sz = j := by rw [Nat.mul_comm, Nat.mul_add_mod, Nat.mod_eq_of_lt (by omega)]
    have hs : setCellAt sz rows (i * sz + j) d = rows.set i (r.set j d) := by
      unfold setCellAt
      rw [hd, hm]
      exact modify_row hr
    have hr2 : (rows.set i (r.set j d))[i]? = some (r.set j d) := by rw [List.getElem?_set_self hi]
    have ih := setCells_row ds (rows.set i (r.set j d)) (j + 1) (r.set j d) hr2 (by rw [List.length_set, hl]) (by omega)
    rw [setCells, hs, show i * sz + j + 1 = i * sz + (j + 1) by omega, ih, List.set_set]
    congr 1
    rw [List.length_cons, show j + 1 + ds.length = j + (ds.length + 1) by omega, List.drop_set_of_lt (by omega)]
    congr 1
    rw [List.take_succ_eq_append_getElem (by rw [List.length_set]; omega), List.take_set_of_le (by omega)]
    simp
theorem setCells_full {sz i : Nat} {ds : List D} {rows : List (List D)} {r : List D} (hr : rows[i]? = some r) (hl : r.length = sz) (hd : ds.length = sz) : setCells sz rows (i * sz) ds = rows.set i ds := by
  have := setCells_row ds rows 0 r hr hl (by omega)
  rw [Nat.add_zero] at this
  rw [this, List.drop_of_length_le (by omega)]; simp
theorem rowsE_put {l : List EV} {i : Nat} {a : Int} {b : ByteArray} (h : i < l.length) : setCells 2 (rowsE l) (i * 2) [.int .i64 a, .str b] = rowsE (l.set i (a, b)) := by
  rw [setCells_full (sz := 2) (rowsE_get h) rfl (show ([.int .i64 a, .str b] : List D).length = 2 from rfl)]
  simp [rowsE, List.map_set]
theorem fill_step {α : Type} {l : List α} {i : Nat} (z : α) (h : i < l.length) : (l.take i ++ List.replicate (l.length - i) z).set i (l.getD i z) = l.take (i + 1) ++ List.replicate (l.length - (i + 1)) z := by
  have hl : (l.take i).length = i := by rw [List.length_take]; omega
  rw [List.set_append_right _ _ (by omega), hl, Nat.sub_self, show l.length - i = (l.length - (i + 1)) + 1 by omega, List.replicate_succ, List.set_cons_zero,
    List.take_succ_eq_append_getElem h, List.append_assoc]
  simp [List.getD, h]
theorem take_snocZ {α : Type} {l : List α} {i : Nat} (z : α) (h : i < l.length) : l.take (i + 1) = l.take i ++ [l.getD i z] := by
  rw [List.take_succ_eq_append_getElem h]; simp [List.getD, h]
theorem rowsE_set {l : List EV} {i n : Nat} (h : i < n) : rowsE (l.take i ++ List.replicate (n - i) eZ) = rowsE (l.take i) ++ List.replicate (n - i) [.int .i64 0, .str ⟨#[]⟩] := by
  simp [rowsE, eZ]

theorem g102 (a : Int) (b : ByteArray) (c : Int) (d : ByteArray) : Good Try.prog 102 [⟨.agg, [.int .i64 a, .str b]⟩, ⟨.agg, [.int .i64 c, .str d]⟩] [] (⟨.one, [.bool (decide (a = c) && decide (b = d))]⟩) [⟨.agg, [.int .i64 a, .str b]⟩, ⟨.agg, [.int .i64 c, .str d]⟩] [] := by
  refine Good_of (E := envOf []) (envOk_of trivial) Try.func102 m102 rfl ?_
  simp (maxSteps := 1000000) (disch := omega) only [go_sem, wI, wB, x102, r102_0, r102_1, r102_2, r102_3, r102_4, r102_5, Int.toNat_natCast, natS1, natS2, rowsE_at, rowsE_get, rowsE_snoc, Nat.mul_one, Nat.div_one, Nat.mod_one]
  repeat' (first | ((with_reducible apply scEnd_of); exact rfl; exact rfl) | ((with_reducible apply ScW_of); rfl; rfl; trivial; (intro h; try simp only [HS] at h)) | ((with_reducible apply Br_of) <;> (intro h; (try simp only [h]); (try simp only [HS] at h))) | ((with_reducible first | refine Opt_put_if ?_ ?_ | refine Opt_if ?_ ?_ | refine Opt_bind_if ?_ ?_ | refine Opt_ifb ?_ ?_); (· (first | omega | (refine ⟨?_, ?_⟩ <;> omega) | (refine ⟨?_, ?_, ?_⟩ <;> omega) | (refine ⟨rfl, ?_⟩; simp only [okBig, Bool.and_eq_true, decide_eq_true_eq]; omega) | (refine Nat.le_trans (Nat.add_le_add_left (varS_le _) _) ?_; simp only [size_strOfNums, List.length_cons, List.length_nil, rowsE_length, ByteArray.size_append]; omega) | (refine ⟨rfl, ?_⟩; simp only [okBig, Bool.and_eq_true, decide_eq_true_eq, size_strOfNums, List.length_cons, List.length_nil, rowsE_length, ByteArray.size_append]; omega) | (simp only [size_strOfNums, List.length_cons, List.length_nil, rowsE_length, ByteArray.size_append]; omega)))) | ((with_reducible refine Opt_bind_ifn ?_ ?_); (· omega)) | simp (maxSteps := 1000000) (disch := omega) only [go_sem, wI, wB, Int.toNat_natCast, natS1, natS2, rowsE_at, rowsE_get, rowsE_snoc, Nat.mul_one, Nat.div_one, Nat.mod_one])
  all_goals simp_all
noncomputable def c102 : List SV → Refs → Option (SV × List SV × Refs)
  | [⟨.agg, [.int .i64 a, .str b]⟩, ⟨.agg, [.int .i64 c, .str d]⟩], [] => some (⟨.one, [.bool (decide (a = c) && decide (b = d))]⟩, [⟨.agg, [.int .i64 a, .str b]⟩, ⟨.agg, [.int .i64 c, .str d]⟩], [])
  | _, _ => none
theorem ctr102 : Ctr Try.prog 102 c102 := by
  refine ⟨k102, fun args rf res args' rf' h => ?_⟩
  unfold c102 at h
  split at h
  · simp only [Option.some.injEq, Prod.mk.injEq] at h
    obtain ⟨rfl, rfl, rfl⟩ := h
    exact g102 _ _ _ _
  · simp at h
@[go_sem] theorem c102_eq {a : Int} {b : ByteArray} {c : Int} {d : ByteArray} : c102 [⟨.agg, [.int .i64 a, .str b]⟩, ⟨.agg, [.int .i64 c, .str d]⟩] [] = some (⟨.one, [.bool (decide (a = c) && decide (b = d))]⟩, [⟨.agg, [.int .i64 a, .str b]⟩, ⟨.agg, [.int .i64 c, .str d]⟩], []) := rfl

theorem g52 (l m : List EV) (hyp : l.length ≤ 1048576) : Good Try.prog 52 [⟨.one, [.ro 2 (rowsE l)]⟩, ⟨.one, [.ro 2 (rowsE m)]⟩] [] (⟨.one, [.bool (eqE l m)]⟩) [⟨.one, [.ro 2 (rowsE l)]⟩, ⟨.one, [.ro 2 (rowsE m)]⟩] [] := by
  refine Good_of (E := envOf [(102, c102)]) (envOk_of ⟨ctr102, trivial⟩) Try.func52 m52 rfl ?_
  simp (maxSteps := 1000000) (disch := omega) only [go_sem, wI, wB, x52, r52_0, r52_1, r52_2, r52_3, r52_4, r52_6v, r52_6t, r52_7, r52_5, r52_8, Int.toNat_natCast, natS1, natS2, rowsE_at, rowsE_get, rowsE_snoc, Nat.mul_one, Nat.div_one, Nat.mod_one]
  repeat' (first | ((with_reducible apply scEnd_of); exact rfl; exact rfl) | ((with_reducible apply ScW_of); rfl; rfl; trivial; (intro h; try simp only [HS] at h)) | ((with_reducible apply Br_of) <;> (intro h; (try simp only [h]); (try simp only [HS] at h))) | ((with_reducible first | refine Opt_put_if ?_ ?_ | refine Opt_if ?_ ?_ | refine Opt_bind_if ?_ ?_ | refine Opt_ifb ?_ ?_); (· (first | omega | (refine ⟨?_, ?_⟩ <;> omega) | (refine ⟨?_, ?_, ?_⟩ <;> omega) | (refine ⟨rfl, ?_⟩; simp only [okBig, Bool.and_eq_true, decide_eq_true_eq]; omega) | (refine Nat.le_trans (Nat.add_le_add_left (varS_le _) _) ?_; simp only [size_strOfNums, List.length_cons, List.length_nil, rowsE_length, ByteArray.size_append]; omega) | (refine ⟨rfl, ?_⟩; simp only [okBig, Bool.and_eq_true, decide_eq_true_eq, size_strOfNums, List.length_cons, List.length_nil, rowsE_length, ByteArray.size_append]; omega) | (simp only [size_strOfNums, List.length_cons, List.length_nil, rowsE_length, ByteArray.size_append]; omega)))) | ((with_reducible refine Opt_bind_ifn ?_ ?_); (· omega)) | simp (maxSteps := 1000000) (disch := omega) only [go_sem, wI, wB, Int.toNat_natCast, natS1, natS2, rowsE_at, rowsE_get, rowsE_snoc, Nat.mul_one, Nat.div_one, Nat.mod_one])
  · rw [eqE, decide_eq_false]; rintro rfl; omega
  · refine LoopK_of (α := Nat) (fun p => ⟨[(5, i64 p), (1, ⟨.one, [.ro 2 (rowsE m)]⟩), (0, ⟨.one, [.ro 2 (rowsE l)]⟩)], [], [(0, ⟨.one, [.ro 2 (rowsE l)]⟩), (1, ⟨.one, [.ro 2 (rowsE m)]⟩)]⟩) (fun p => p ≤ l.length ∧ l.take p = m.take p) (fun p => l.length - p) 0 rfl ⟨Nat.zero_le _, by simp⟩ ?_
    rintro i ⟨h1, h2⟩
    simp (maxSteps := 1000000) (disch := omega) only [go_sem, wI, wB, x52, r52_0, r52_1, r52_2, r52_3, r52_4, r52_6v, r52_6t, r52_7, r52_5, r52_8, Int.toNat_natCast, natS1, natS2, rowsE_at, rowsE_get, rowsE_snoc, Nat.mul_one, Nat.div_one, Nat.mod_one]
    repeat' (first | ((with_reducible apply scEnd_of); exact rfl; exact rfl) | ((with_reducible apply ScW_of); rfl; rfl; trivial; (intro h; try simp only [HS] at h)) | ((with_reducible apply Br_of) <;> (intro h; (try simp only [h]); (try simp only [HS] at h))) | ((with_reducible first | refine Opt_put_if ?_ ?_ | refine Opt_if ?_ ?_ | refine Opt_bind_if ?_ ?_ | refine Opt_ifb ?_ ?_); (· (first | omega | (refine ⟨?_, ?_⟩ <;> omega) | (refine ⟨?_, ?_, ?_⟩ <;> omega) | (refine ⟨rfl, ?_⟩; simp only [okBig, Bool.and_eq_true, decide_eq_true_eq]; omega) | (refine Nat.le_trans (Nat.add_le_add_left (varS_le _) _) ?_; simp only [size_strOfNums, List.length_cons, List.length_nil, rowsE_length, ByteArray.size_append]; omega) | (refine ⟨rfl, ?_⟩; simp only [okBig, Bool.and_eq_true, decide_eq_true_eq, size_strOfNums, List.length_cons, List.length_nil, rowsE_length, ByteArray.size_append]; omega) | (simp only [size_strOfNums, List.length_cons, List.length_nil, rowsE_length, ByteArray.size_append]; omega)))) | ((with_reducible refine Opt_bind_ifn ?_ ?_); (· omega)) | simp (maxSteps := 1000000) (disch := omega) only [go_sem, wI, wB, Int.toNat_natCast, natS1, natS2, rowsE_at, rowsE_get, rowsE_snoc, Nat.mul_one, Nat.div_one, Nat.mod_one])
    · rw [eqE, decide_eq_false]; rintro rfl; rcases h with h | h <;> exact h rfl
    · refine LoopQ_of (i + 1) rfl ⟨by omega, ?_⟩ (by omega)
      rw [take_snocZ eZ (by omega), take_snocZ eZ (by omega), h2]
      congr 2
      exact Prod.ext h.1 h.2
    · rw [List.take_of_length_le (by omega), List.take_of_length_le (by omega)] at h2
      rw [eqE, decide_eq_true h2]
noncomputable def c52 : List SV → Refs → Option (SV × List SV × Refs) := ctrOf (α := (List EV) × (List EV)) (fun ⟨l, m⟩ => l.length ≤ 1048576) (fun ⟨l, m⟩ => [⟨.one, [.ro 2 (rowsE l)]⟩, ⟨.one, [.ro 2 (rowsE m)]⟩]) (fun ⟨l, m⟩ => []) (fun ⟨l, m⟩ => ⟨.one, [.bool (eqE l m)]⟩) (fun ⟨l, m⟩ => [⟨.one, [.ro 2 (rowsE l)]⟩, ⟨.one, [.ro 2 (rowsE m)]⟩]) (fun ⟨l, m⟩ => [])
theorem ctr52 : Ctr Try.prog 52 c52 := ctrOf_ok k52 (fun ⟨l, m⟩ hyp => g52 _ _ hyp)
theorem c52_eq {l m : List EV} (hyp : l.length ≤ 1048576) : c52 [⟨.one, [.ro 2 (rowsE l)]⟩, ⟨.one, [.ro 2 (rowsE m)]⟩] [] = some (⟨.one, [.bool (eqE l m)]⟩, [⟨.one, [.ro 2 (rowsE l)]⟩, ⟨.one, [.ro 2 (rowsE m)]⟩], []) := ctrOf_eq (α := (List EV) × (List EV)) (x := (l, m)) (by intro x y h1 h2; simp at h1 h2; first | exact h1 | (simp_all; done) | (ext <;> simp_all)) hyp

theorem g96 (l m : List EV) (hyp : l.length ≤ 1048576) : Good Try.prog 96 [⟨.one, [.ro 2 (rowsE l)]⟩, ⟨.one, [.ro 2 (rowsE m)]⟩] [] (⟨.one, [.bool (eqE l m)]⟩) [⟨.one, [.ro 2 (rowsE l)]⟩, ⟨.one, [.ro 2 (rowsE m)]⟩] [] := by
  refine Good_of (E := envOf []) (envOk_of trivial) Try.func96 m96 rfl ?_
  simp (maxSteps := 1000000) (disch := omega) only [go_sem, wI, wB, x96, r96_0, r96_1, r96_2, r96_3, r96_4, r96_6v, r96_6t, r96_7, r96_5, r96_8, Int.toNat_natCast, natS1, natS2, rowsE_at, rowsE_get, rowsE_snoc, Nat.mul_one, Nat.div_one, Nat.mod_one]
  repeat' (first | ((with_reducible apply scEnd_of); exact rfl; exact rfl) | ((with_reducible apply ScW_of); rfl; rfl; trivial; (intro h; try simp only [HS] at h)) | ((with_reducible apply Br_of) <;> (intro h; (try simp only [h]); (try simp only [HS] at h))) | ((with_reducible first | refine Opt_put_if ?_ ?_ | refine Opt_if ?_ ?_ | refine Opt_bind_if ?_ ?_ | refine Opt_ifb ?_ ?_); (· (first | omega | (refine ⟨?_, ?_⟩ <;> omega) | (refine ⟨?_, ?_, ?_⟩ <;> omega) | (refine ⟨rfl, ?_⟩; simp only [okBig, Bool.and_eq_true, decide_eq_true_eq]; omega) | (refine Nat.le_trans (Nat.add_le_add_left (varS_le _) _) ?_; simp only [size_strOfNums, List.length_cons, List.length_nil, rowsE_length, ByteArray.size_append]; omega) | (refine ⟨rfl, ?_⟩; simp only [okBig, Bool.and_eq_true, decide_eq_true_eq, size_strOfNums, List.length_cons, List.length_nil, rowsE_length, ByteArray.size_append]; omega) | (simp only [size_strOfNums, List.length_cons, List.length_nil, rowsE_length, ByteArray.size_append]; omega)))) | ((with_reducible refine Opt_bind_ifn ?_ ?_); (· omega)) | simp (maxSteps := 1000000) (disch := omega) only [go_sem, wI, wB, Int.toNat_natCast, natS1, natS2, rowsE_at, rowsE_get, rowsE_snoc, Nat.mul_one, Nat.div_one, Nat.mod_one])
  · rw [eqE, decide_eq_false]; rintro rfl; omega
  · refine LoopK_of (α := Nat) (fun p => ⟨[(5, i64 p), (1, ⟨.one, [.ro 2 (rowsE m)]⟩), (0, ⟨.one, [.ro 2 (rowsE l)]⟩)], [], [(0, ⟨.one, [.ro 2 (rowsE l)]⟩), (1, ⟨.one, [.ro 2 (rowsE m)]⟩)]⟩) (fun p => p ≤ l.length ∧ l.take p = m.take p) (fun p => l.length - p) 0 rfl ⟨Nat.zero_le _, by simp⟩ ?_
    rintro i ⟨h1, h2⟩
    simp (maxSteps := 1000000) (disch := omega) only [go_sem, wI, wB, x96, r96_0, r96_1, r96_2, r96_3, r96_4, r96_6v, r96_6t, r96_7, r96_5, r96_8, Int.toNat_natCast, natS1, natS2, rowsE_at, rowsE_get, rowsE_snoc, Nat.mul_one, Nat.div_one, Nat.mod_one]
    repeat' (first | ((with_reducible apply scEnd_of); exact rfl; exact rfl) | ((with_reducible apply ScW_of); rfl; rfl; trivial; (intro h; try simp only [HS] at h)) | ((with_reducible apply Br_of) <;> (intro h; (try simp only [h]); (try simp only [HS] at h))) | ((with_reducible first | refine Opt_put_if ?_ ?_ | refine Opt_if ?_ ?_ | refine Opt_bind_if ?_ ?_ | refine Opt_ifb ?_ ?_); (· (first | omega | (refine ⟨?_, ?_⟩ <;> omega) | (refine ⟨?_, ?_, ?_⟩ <;> omega) | (refine ⟨rfl, ?_⟩; simp only [okBig, Bool.and_eq_true, decide_eq_true_eq]; omega) | (refine Nat.le_trans (Nat.add_le_add_left (varS_le _) _) ?_; simp only [size_strOfNums, List.length_cons, List.length_nil, rowsE_length, ByteArray.size_append]; omega) | (refine ⟨rfl, ?_⟩; simp only [okBig, Bool.and_eq_true, decide_eq_true_eq, size_strOfNums, List.length_cons, List.length_nil, rowsE_length, ByteArray.size_append]; omega) | (simp only [size_strOfNums, List.length_cons, List.length_nil, rowsE_length, ByteArray.size_append]; omega)))) | ((with_reducible refine Opt_bind_ifn ?_ ?_); (· omega)) | simp (maxSteps := 1000000) (disch := omega) only [go_sem, wI, wB, Int.toNat_natCast, natS1, natS2, rowsE_at, rowsE_get, rowsE_snoc, Nat.mul_one, Nat.div_one, Nat.mod_one])
    · rw [eqE, decide_eq_false]; rintro rfl; rcases h with h | h <;> exact h rfl
    · refine LoopQ_of (i + 1) rfl ⟨by omega, ?_⟩ (by omega)
      rw [take_snocZ eZ (by omega), take_snocZ eZ (by omega), h2]
      congr 2
      exact Prod.ext h.1 h.2
    · rw [List.take_of_length_le (by omega), List.take_of_length_le (by omega)] at h2
      rw [eqE, decide_eq_true h2]
noncomputable def c96 : List SV → Refs → Option (SV × List SV × Refs) := ctrOf (α := (List EV) × (List EV)) (fun ⟨l, m⟩ => l.length ≤ 1048576) (fun ⟨l, m⟩ => [⟨.one, [.ro 2 (rowsE l)]⟩, ⟨.one, [.ro 2 (rowsE m)]⟩]) (fun ⟨l, m⟩ => []) (fun ⟨l, m⟩ => ⟨.one, [.bool (eqE l m)]⟩) (fun ⟨l, m⟩ => [⟨.one, [.ro 2 (rowsE l)]⟩, ⟨.one, [.ro 2 (rowsE m)]⟩]) (fun ⟨l, m⟩ => [])
theorem ctr96 : Ctr Try.prog 96 c96 := ctrOf_ok k96 (fun ⟨l, m⟩ hyp => g96 _ _ hyp)
theorem c96_eq {l m : List EV} (hyp : l.length ≤ 1048576) : c96 [⟨.one, [.ro 2 (rowsE l)]⟩, ⟨.one, [.ro 2 (rowsE m)]⟩] [] = some (⟨.one, [.bool (eqE l m)]⟩, [⟨.one, [.ro 2 (rowsE l)]⟩, ⟨.one, [.ro 2 (rowsE m)]⟩], []) := ctrOf_eq (α := (List EV) × (List EV)) (x := (l, m)) (by intro x y h1 h2; simp at h1 h2; first | exact h1 | (simp_all; done) | (ext <;> simp_all)) hyp

end Go.Eng

namespace Go.Eng
open Go Go.Proofs

theorem sansR_eq (s : ByteArray) : sansR s = if finV s.size (varsO 3 (bytes s)) < 0 then none
  else some ⟨(varsV 3 (bytes s)).getD 0 0, (varsV 3 (bytes s)).getD 1 0, (varsV 3 (bytes s)).getD 2 0, s.extract (finV s.size (varsO 3 (bytes s))).toNat s.size⟩ := rfl
theorem Rd_eta (r : Rd) : Rd.mk r.s r.ok = r := rfl
theorem fin_pos {s : ByteArray} : 0 ≤ finV s.size (varsO 1 ((bytes s).drop 1)) → 0 < s.size := by
  intro h
  rcases Nat.eq_zero_or_pos s.size with h0 | h0
  · have hb : bytes s = [] := List.eq_nil_of_length_eq_zero (by rw [bytes_length]; exact h0)
    rw [hb, h0] at h
    have : varsO 1 (([] : List Int).drop 1) = none := rfl
    rw [this, finV] at h
    omega
  · exact h0
def rdOp (r : Rd) : OpV × Rd :=
  (⟨(rdKind r).1, (rdPiece (rdKind r).2).1, (rdNum (rdPiece (rdKind r).2).2).1, (rdNum (rdNum (rdPiece (rdKind r).2).2).2).1, (rdNum (rdNum (rdPiece (rdKind r).2).2).2).2.s⟩,
   (rdNum (rdNum (rdPiece (rdKind r).2).2).2).2)
theorem rdOp_eq (s : ByteArray) : rdOp ⟨s, true⟩ = ropR s := rfl
theorem rdNum_size (r : Rd) : (rdNum r).2.s.size ≤ r.s.size := by
  unfold rdNum; split
  · exact extract_le _ _ _
  · exact Nat.le_refl _
theorem rdBytes_size (r : Rd) (n : Int) : (rdBytes r n).2.s.size ≤ r.s.size ∧ (rdBytes r n).1.size ≤ r.s.size := by
  unfold rdBytes; split
  · exact ⟨Nat.le_refl _, Nat.zero_le _⟩
  · exact ⟨extract_le _ _ _, extract_le _ _ _⟩
theorem rdPiece_size (r : Rd) : (rdPiece r).2.s.size ≤ r.s.size ∧ (rdPiece r).1.size ≤ r.s.size := by
  have h1 := rdNum_size r
  have h2 := rdBytes_size (rdNum r).2 (rdNum r).1
  unfold rdPiece; omega
theorem rdKind_size (r : Rd) : (rdKind r).2.s.size ≤ r.s.size := (rdBytes_size r 1).1
theorem rdOp_size (r : Rd) : (rdOp r).1.key.size ≤ r.s.size ∧ (rdOp r).1.d.size ≤ r.s.size := by
  have h1 := rdKind_size r
  have h2 := rdPiece_size (rdKind r).2
  have h3 := rdNum_size (rdPiece (rdKind r).2).2
  have h4 := rdNum_size (rdNum (rdPiece (rdKind r).2).2).2
  unfold rdOp
  simp only
  omega
theorem fin_fact {n : Nat} {b : List Int} {z : Nat} (hb : isB b) (hz : b.length ≤ z) : 0 ≤ finV z (varsO n b) → (varsV n b).length = n ∧ finV z (varsO n b) ≤ z ∧ ∀ i, 0 ≤ (varsV n b).getD i 0 := by
  intro h
  rcases hv : varsO n b with _ | ⟨v, r⟩
  · rw [hv, finV] at h; omega
  · obtain ⟨h1, h2, h3⟩ := varsO_some n b v r hb hv
    rw [varsV_of _ _ _ _ hv]
    have h4 := finV_rest hv hb hz
    rw [hv] at h4
    refine ⟨h1, h4.2, fun i => ?_⟩
    rw [List.getD_eq_getElem?_getD]
    rcases hi : v[i]? with _ | x
    · simp
    · have := h2 x (List.mem_of_getElem? hi)
      unfold okN at this
      simp; omega

theorem g99 (s : ByteArray) (ok : Bool) : Good Try.prog 99 [⟨.one, [.ptr 1000000 0]⟩] [(1000000, [.str s, .bool ok])] (⟨.agg, [.int .i64 (rdOp ⟨s, ok⟩).1.k, .str (rdOp ⟨s, ok⟩).1.key, .int .i64 (rdOp ⟨s, ok⟩).1.f, .int .i64 (rdOp ⟨s, ok⟩).1.t, .str (rdOp ⟨s, ok⟩).1.d]⟩) [⟨.one, [.ptr 1000000 0]⟩] [(1000000, [.str (rdOp ⟨s, ok⟩).2.s, .bool (rdOp ⟨s, ok⟩).2.ok])] := by
  refine Good_of (E := envOf [(129, c129), (83, c83), (81, c81)]) (envOk_of ⟨ctr129, ⟨ctr83, ⟨ctr81, trivial⟩⟩⟩) Try.func99 m99 rfl ?_
  simp (maxSteps := 1000000) (disch := omega) only [go_sem, wI, wB, x99, r99_0, r99_1, r99_2, r99_3, r99_4, r99_5, r99_6, r99_7, Root.isRef, Int.toNat_natCast, natS1, natS2, rowsI_at, rowsI_at0, rowsI_get, rowsI_snoc, Nat.mul_one, Nat.div_one, Nat.mod_one]
  repeat' (first | ((with_reducible apply scEnd_of); exact rfl; exact rfl) | ((with_reducible apply ScW_of); rfl; rfl; trivial; (intro h; try simp only [HS] at h)) | ((with_reducible apply Br_of) <;> (intro h; (try simp only [h]); (try simp only [HS] at h))) | ((with_reducible first | refine Opt_put_if ?_ ?_ | refine Opt_if ?_ ?_ | refine Opt_bind_if ?_ ?_ | refine Opt_ifb ?_ ?_); (· (first | omega | (refine ⟨?_, ?_⟩ <;> omega) | (refine ⟨?_, ?_, ?_⟩ <;> omega) | (refine ⟨rfl, ?_⟩; simp only [okBig, Bool.and_eq_true, decide_eq_true_eq]; omega)))) | ((with_reducible refine Opt_bind_ifn ?_ ?_); (· omega)) | simp (maxSteps := 1000000) (disch := omega) only [go_sem, wI, wB, Root.isRef, Int.toNat_natCast, natS1, natS2, rowsI_at, rowsI_at0, rowsI_get, rowsI_snoc, Nat.mul_one, Nat.div_one, Nat.mod_one])
  rfl
noncomputable def c99 : List SV → Refs → Option (SV × List SV × Refs)
  | [⟨.one, [.ptr 1000000 0]⟩], [(1000000, [.str s, .bool ok])] => some (⟨.agg, [.int .i64 (rdOp ⟨s, ok⟩).1.k, .str (rdOp ⟨s, ok⟩).1.key, .int .i64 (rdOp ⟨s, ok⟩).1.f, .int .i64 (rdOp ⟨s, ok⟩).1.t, .str (rdOp ⟨s, ok⟩).1.d]⟩, [⟨.one, [.ptr 1000000 0]⟩], [(1000000, [.str (rdOp ⟨s, ok⟩).2.s, .bool (rdOp ⟨s, ok⟩).2.ok])])
  | _, _ => none
theorem ctr99 : Ctr Try.prog 99 c99 := by
  refine ⟨k99, fun args rf res args' rf' h => ?_⟩
  unfold c99 at h
  split at h
  · simp only [Option.some.injEq, Prod.mk.injEq] at h
    obtain ⟨rfl, rfl, rfl⟩ := h
    exact g99 _ _
  · simp at h
@[go_sem] theorem c99_eq {s : ByteArray} {ok : Bool} : c99 [⟨.one, [.ptr 1000000 0]⟩] [(1000000, [.str s, .bool ok])] = some (⟨.agg, [.int .i64 (rdOp ⟨s, ok⟩).1.k, .str (rdOp ⟨s, ok⟩).1.key, .int .i64 (rdOp ⟨s, ok⟩).1.f, .int .i64 (rdOp ⟨s, ok⟩).1.t, .str (rdOp ⟨s, ok⟩).1.d]⟩, [⟨.one, [.ptr 1000000 0]⟩], [(1000000, [.str (rdOp ⟨s, ok⟩).2.s, .bool (rdOp ⟨s, ok⟩).2.ok])]) := rfl

theorem g48 (s : ByteArray) (hyp : s.size ≤ 1152921504606846976) : Good Try.prog 48 [⟨.one, [.str s]⟩] [] (⟨.tup [(true, 5), (false, 1)], [.int .i64 (rop s).1.k, .str (rop s).1.key, .int .i64 (rop s).1.f, .int .i64 (rop s).1.t, .str (rop s).1.d, .bool (rop s).2]⟩) [⟨.one, [.str s]⟩] [] := by
  refine Good_of (E := envOf [(99, c99), (100, c100)]) (envOk_of ⟨ctr99, ⟨ctr100, trivial⟩⟩) Try.func48 m48 rfl ?_
  have hz := rdOp_size ⟨s, true⟩
  simp only at hz
  simp (maxSteps := 1000000) (disch := omega) only [go_sem, wI, wB, x48, r48_0, r48_1, r48_2, r48_3, r48_4, r48_5, Root.isRef, Int.toNat_natCast, natS1, natS2, rowsI_at, rowsI_at0, rowsI_get, rowsI_snoc, Nat.mul_one, Nat.div_one, Nat.mod_one, c100_eq]
  repeat' (first | ((with_reducible apply scEnd_of); exact rfl; exact rfl) | ((with_reducible apply ScW_of); rfl; rfl; trivial; (intro h; try simp only [HS] at h)) | ((with_reducible apply Br_of) <;> (intro h; (try simp only [h]); (try simp only [HS] at h))) | ((with_reducible first | refine Opt_put_if ?_ ?_ | refine Opt_if ?_ ?_ | refine Opt_bind_if ?_ ?_ | refine Opt_ifb ?_ ?_); (· (first | omega | (refine ⟨?_, ?_⟩ <;> omega) | (refine ⟨?_, ?_, ?_⟩ <;> omega) | (refine ⟨rfl, ?_⟩; simp only [okBig, Bool.and_eq_true, decide_eq_true_eq]; omega)))) | ((with_reducible refine Opt_bind_ifn ?_ ?_); (· omega)) | simp (maxSteps := 1000000) (disch := omega) only [go_sem, wI, wB, Root.isRef, Int.toNat_natCast, natS1, natS2, rowsI_at, rowsI_at0, rowsI_get, rowsI_snoc, Nat.mul_one, Nat.div_one, Nat.mod_one, c100_eq])
  · rw [ropI_eq, if_neg]
    · rfl
    · rintro ⟨a, b⟩
      rcases h with h | h
      · rw [show (ropR s).2.ok = (rdOp ⟨s, true⟩).2.ok from rfl, h] at a; simp at a
      · exact h b
  · rw [ropI_eq, if_pos (show (ropR s).2.ok = true ∧ opS (ropR s).1 = s from h)]; rfl
noncomputable def c48 : List SV → Refs → Option (SV × List SV × Refs)
  | [⟨.one, [.str s]⟩], [] => (open Classical in if s.size ≤ 1152921504606846976 then some (⟨.tup [(true, 5), (false, 1)], [.int .i64 (rop s).1.k, .str (rop s).1.key, .int .i64 (rop s).1.f, .int .i64 (rop s).1.t, .str (rop s).1.d, .bool (rop s).2]⟩, [⟨.one, [.str s]⟩], []) else none)
  | _, _ => none
theorem ctr48 : Ctr Try.prog 48 c48 := by
  refine ⟨k48, fun args rf res args' rf' h => ?_⟩
  unfold c48 at h
  split at h
  · split at h
    · rename_i hyp
      simp only [Option.some.injEq, Prod.mk.injEq] at h
      obtain ⟨rfl, rfl, rfl⟩ := h
      exact g48 _ hyp
    · simp at h
  · simp at h
theorem c48_eq {s : ByteArray} (hyp : s.size ≤ 1152921504606846976) : c48 [⟨.one, [.str s]⟩] [] = some (⟨.tup [(true, 5), (false, 1)], [.int .i64 (rop s).1.k, .str (rop s).1.key, .int .i64 (rop s).1.f, .int .i64 (rop s).1.t, .str (rop s).1.d, .bool (rop s).2]⟩, [⟨.one, [.str s]⟩], []) := if_pos hyp

theorem g39 (s : ByteArray) (hyp : s.size ≤ 1152921504606846976) : Good Try.prog 39 [⟨.one, [.str s]⟩] [] (⟨.tup [(true, 5), (false, 1)], [.int .i64 (rop s).1.k, .str (rop s).1.key, .int .i64 (rop s).1.f, .int .i64 (rop s).1.t, .str (rop s).1.d, .bool (rop s).2]⟩) [⟨.one, [.str s]⟩] [] := by
  refine Good_of (E := envOf [(79, c79), (94, c94)]) (envOk_of ⟨ctr79, ⟨ctr94, trivial⟩⟩) Try.func39 m39 rfl ?_
  have p0 := fin_pos (s := s)
  have bq := byteAt_rng s 0
  have f1 := fin_fact (n := 1) (z := s.size) (b := (bytes s).drop 1) (isB_drop (isB_bytes s) 1) (by rw [List.length_drop, bytes_length]; omega)
  have f2 := fin_fact (n := 2) (z := s.size) (b := ((bytes s).drop ((finV s.size (varsO 1 ((bytes s).drop 1))) + ((varsV 1 ((bytes s).drop 1)).getD 0 0)).toNat)) (isB_drop (isB_bytes s) _) (by rw [List.length_drop, bytes_length]; omega)
  have p1 : 0 ≤ (finV s.size (varsO 1 ((bytes s).drop 1))) → 0 ≤ ((varsV 1 ((bytes s).drop 1)).getD 0 0) := fun h => (f1 h).2.2 0
  have q1 := fun h => (f1 h).1
  have q2 := fun h => (f2 h).1
  have q3 := fun h => (f1 h).2.1
  have q4 := fun h => (f2 h).2.1
  clear f1 f2
  have z1 := extract_le s (finV s.size (varsO 1 ((bytes s).drop 1))).toNat ((finV s.size (varsO 1 ((bytes s).drop 1))) + ((varsV 1 ((bytes s).drop 1)).getD 0 0)).toNat
  have z2 := extract_le s (finV s.size (varsO 2 ((bytes s).drop ((finV s.size (varsO 1 ((bytes s).drop 1))) + ((varsV 1 ((bytes s).drop 1)).getD 0 0)).toNat))).toNat s.size
  simp (maxSteps := 1000000) (disch := omega) only [go_sem, wI, wB, x39, r39_0, r39_1, r39_2, r39_3, r39_4, r39_5, r39_6, r39_7v, r39_7t, r39_8, r39_9, r39_10, Root.isRef, Int.toNat_natCast, natS1, natS2, rowsI_at, rowsI_at0, rowsI_get, rowsI_snoc, Nat.mul_one, Nat.div_one, Nat.mod_one, c94_eq, c79_eq]
  repeat' (first | ((with_reducible apply scEnd_of); exact rfl; exact rfl) | ((with_reducible apply ScW_of); rfl; rfl; trivial; (intro h; try simp only [HS] at h)) | ((with_reducible apply Br_of) <;> (intro h; (try simp only [h]); (try simp only [HS] at h))) | ((with_reducible first | refine Opt_put_if ?_ ?_ | refine Opt_if ?_ ?_ | refine Opt_bind_if ?_ ?_ | refine Opt_ifb ?_ ?_); (· (first | omega | (refine ⟨?_, ?_⟩ <;> omega) | (refine ⟨?_, ?_, ?_⟩ <;> omega) | (refine ⟨rfl, ?_⟩; simp only [okBig, Bool.and_eq_true, decide_eq_true_eq]; omega)))) | ((with_reducible refine Opt_bind_ifn ?_ ?_); (· omega)) | simp (maxSteps := 1000000) (disch := omega) only [go_sem, wI, wB, Root.isRef, Int.toNat_natCast, natS1, natS2, rowsI_at, rowsI_at0, rowsI_get, rowsI_snoc, Nat.mul_one, Nat.div_one, Nat.mod_one, c94_eq, c79_eq])
  · rw [ropS_eq, show sopR s = none from if_pos (or_assoc.1 h)]; rfl
  · rename_i h1
    rw [ropS_eq, show sopR s = none from (by unfold sopR; rw [if_neg (by omega), if_pos h])]; rfl
  · rename_i h2 h1
    rw [ropS_eq, show sopR s = some _ from (by unfold sopR; rw [if_neg (by omega), if_neg (by omega)])]; simp only; rw [if_neg h]; rfl
  · rename_i h2 h1
    rw [ropS_eq, show sopR s = some _ from (by unfold sopR; rw [if_neg (by omega), if_neg (by omega)])]; simp only; rw [if_pos h]
noncomputable def c39 : List SV → Refs → Option (SV × List SV × Refs)
  | [⟨.one, [.str s]⟩], [] => (open Classical in if s.size ≤ 1152921504606846976 then some (⟨.tup [(true, 5), (false, 1)], [.int .i64 (rop s).1.k, .str (rop s).1.key, .int .i64 (rop s).1.f, .int .i64 (rop s).1.t, .str (rop s).1.d, .bool (rop s).2]⟩, [⟨.one, [.str s]⟩], []) else none)
  | _, _ => none
theorem ctr39 : Ctr Try.prog 39 c39 := by
  refine ⟨k39, fun args rf res args' rf' h => ?_⟩
  unfold c39 at h
  split at h
  · split at h
    · rename_i hyp
      simp only [Option.some.injEq, Prod.mk.injEq] at h
      obtain ⟨rfl, rfl, rfl⟩ := h
      exact g39 _ hyp
    · simp at h
  · simp at h
theorem c39_eq {s : ByteArray} (hyp : s.size ≤ 1152921504606846976) : c39 [⟨.one, [.str s]⟩] [] = some (⟨.tup [(true, 5), (false, 1)], [.int .i64 (rop s).1.k, .str (rop s).1.key, .int .i64 (rop s).1.f, .int .i64 (rop s).1.t, .str (rop s).1.d, .bool (rop s).2]⟩, [⟨.one, [.str s]⟩], []) := if_pos hyp

theorem g51 (s : ByteArray) (hyp : s.size ≤ 1152921504606846976) : Good Try.prog 51 [⟨.one, [.str s]⟩] [] (⟨.tup [(true, 4), (false, 1)], [.int .i64 (rans s).1.c, .int .i64 (rans s).1.i, .int .i64 (rans s).1.m, .str (rans s).1.d, .bool (rans s).2]⟩) [⟨.one, [.str s]⟩] [] := by
  refine Good_of (E := envOf [(81, c81), (101, c101)]) (envOk_of ⟨ctr81, ⟨ctr101, trivial⟩⟩) Try.func51 m51 rfl ?_
  have z1 := rdNum_size ⟨s, true⟩
  have z2 := rdNum_size (rdNum ⟨s, true⟩).2
  have z3 := rdNum_size (rdNum (rdNum ⟨s, true⟩).2).2
  simp only at z1 z2 z3
  simp (maxSteps := 1000000) (disch := omega) only [go_sem, wI, wB, x51, r51_0, r51_1, r51_2, r51_3, r51_4, r51_5, r51_6, r51_7, r51_8, r51_9, Root.isRef, Int.toNat_natCast, natS1, natS2, rowsI_at, rowsI_at0, rowsI_get, rowsI_snoc, Nat.mul_one, Nat.div_one, Nat.mod_one, Rd_eta, c101_eq]
  repeat' (first | ((with_reducible apply scEnd_of); exact rfl; exact rfl) | ((with_reducible apply ScW_of); rfl; rfl; trivial; (intro h; try simp only [HS] at h)) | ((with_reducible apply Br_of) <;> (intro h; (try simp only [h]); (try simp only [HS] at h))) | ((with_reducible first | refine Opt_put_if ?_ ?_ | refine Opt_if ?_ ?_ | refine Opt_bind_if ?_ ?_ | refine Opt_ifb ?_ ?_); (· (first | omega | (refine ⟨?_, ?_⟩ <;> omega) | (refine ⟨?_, ?_, ?_⟩ <;> omega) | (refine ⟨rfl, ?_⟩; simp only [okBig, Bool.and_eq_true, decide_eq_true_eq]; omega)))) | ((with_reducible refine Opt_bind_ifn ?_ ?_); (· omega)) | simp (maxSteps := 1000000) (disch := omega) only [go_sem, wI, wB, Root.isRef, Int.toNat_natCast, natS1, natS2, rowsI_at, rowsI_at0, rowsI_get, rowsI_snoc, Nat.mul_one, Nat.div_one, Nat.mod_one, Rd_eta, c101_eq])
  · rw [ransI_eq, if_neg]
    · rfl
    · rintro ⟨a, b⟩
      rcases h with h | h
      · rw [show (ransR s).2.ok = (rdNum (rdNum (rdNum ⟨s, true⟩).2).2).2.ok from rfl, h] at a; simp at a
      · exact h b
  · rw [ransI_eq, if_pos (show (ransR s).2.ok = true ∧ ansS (ransR s).1 = s from h)]; rfl
noncomputable def c51 : List SV → Refs → Option (SV × List SV × Refs)
  | [⟨.one, [.str s]⟩], [] => (open Classical in if s.size ≤ 1152921504606846976 then some (⟨.tup [(true, 4), (false, 1)], [.int .i64 (rans s).1.c, .int .i64 (rans s).1.i, .int .i64 (rans s).1.m, .str (rans s).1.d, .bool (rans s).2]⟩, [⟨.one, [.str s]⟩], []) else none)
  | _, _ => none
theorem ctr51 : Ctr Try.prog 51 c51 := by
  refine ⟨k51, fun args rf res args' rf' h => ?_⟩
  unfold c51 at h
  split at h
  · split at h
    · rename_i hyp
      simp only [Option.some.injEq, Prod.mk.injEq] at h
      obtain ⟨rfl, rfl, rfl⟩ := h
      exact g51 _ hyp
    · simp at h
  · simp at h
theorem c51_eq {s : ByteArray} (hyp : s.size ≤ 1152921504606846976) : c51 [⟨.one, [.str s]⟩] [] = some (⟨.tup [(true, 4), (false, 1)], [.int .i64 (rans s).1.c, .int .i64 (rans s).1.i, .int .i64 (rans s).1.m, .str (rans s).1.d, .bool (rans s).2]⟩, [⟨.one, [.str s]⟩], []) := if_pos hyp

theorem g40 (s : ByteArray) (hyp : s.size ≤ 1152921504606846976) : Good Try.prog 40 [⟨.one, [.str s]⟩] [] (⟨.tup [(true, 4), (false, 1)], [.int .i64 (rans s).1.c, .int .i64 (rans s).1.i, .int .i64 (rans s).1.m, .str (rans s).1.d, .bool (rans s).2]⟩) [⟨.one, [.str s]⟩] [] := by
  refine Good_of (E := envOf [(79, c79), (95, c95)]) (envOk_of ⟨ctr79, ⟨ctr95, trivial⟩⟩) Try.func40 m40 rfl ?_
  have f1 := fin_fact (n := 3) (z := s.size) (b := bytes s) (isB_bytes s) (by rw [bytes_length]; omega)
  have q1 := fun h => (f1 h).1
  have q3 := fun h => (f1 h).2.1
  clear f1
  have z1 := extract_le s (finV s.size (varsO 3 (bytes s))).toNat s.size
  have ez := sansR_eq s
  simp (maxSteps := 1000000) (disch := omega) only [go_sem, wI, wB, x40, r40_0, r40_1, r40_2, r40_3, r40_4v, r40_4t, r40_5, r40_6, r40_7, Root.isRef, Int.toNat_natCast, natS1, natS2, rowsI_at, rowsI_at0, rowsI_get, rowsI_snoc, Nat.mul_one, Nat.div_one, Nat.mod_one, c95_eq, c79_eq]
  repeat' (first | ((with_reducible apply scEnd_of); exact rfl; exact rfl) | ((with_reducible apply ScW_of); rfl; rfl; trivial; (intro h; try simp only [HS] at h)) | ((with_reducible apply Br_of) <;> (intro h; (try simp only [h]); (try simp only [HS] at h))) | ((with_reducible first | refine Opt_put_if ?_ ?_ | refine Opt_if ?_ ?_ | refine Opt_bind_if ?_ ?_ | refine Opt_ifb ?_ ?_); (· (first | omega | (refine ⟨?_, ?_⟩ <;> omega) | (refine ⟨?_, ?_, ?_⟩ <;> omega) | (refine ⟨rfl, ?_⟩; simp only [okBig, Bool.and_eq_true, decide_eq_true_eq]; omega)))) | ((with_reducible refine Opt_bind_ifn ?_ ?_); (· omega)) | simp (maxSteps := 1000000) (disch := omega) only [go_sem, wI, wB, Root.isRef, Int.toNat_natCast, natS1, natS2, rowsI_at, rowsI_at0, rowsI_get, rowsI_snoc, Nat.mul_one, Nat.div_one, Nat.mod_one, c95_eq, c79_eq])
  · rw [if_pos h] at ez; rw [ransS_eq, ez]; rfl
  · rw [if_neg (by omega)] at ez; rw [ransS_eq, ez]; simp only; rw [if_neg h]; rfl
  · rw [if_neg (by omega)] at ez; rw [ransS_eq, ez]; simp only; rw [if_pos h]
noncomputable def c40 : List SV → Refs → Option (SV × List SV × Refs)
  | [⟨.one, [.str s]⟩], [] => (open Classical in if s.size ≤ 1152921504606846976 then some (⟨.tup [(true, 4), (false, 1)], [.int .i64 (rans s).1.c, .int .i64 (rans s).1.i, .int .i64 (rans s).1.m, .str (rans s).1.d, .bool (rans s).2]⟩, [⟨.one, [.str s]⟩], []) else none)
  | _, _ => none
theorem ctr40 : Ctr Try.prog 40 c40 := by
  refine ⟨k40, fun args rf res args' rf' h => ?_⟩
  unfold c40 at h
  split at h
  · split at h
    · rename_i hyp
      simp only [Option.some.injEq, Prod.mk.injEq] at h
      obtain ⟨rfl, rfl, rfl⟩ := h
      exact g40 _ hyp
    · simp at h
  · simp at h
theorem c40_eq {s : ByteArray} (hyp : s.size ≤ 1152921504606846976) : c40 [⟨.one, [.str s]⟩] [] = some (⟨.tup [(true, 4), (false, 1)], [.int .i64 (rans s).1.c, .int .i64 (rans s).1.i, .int .i64 (rans s).1.m, .str (rans s).1.d, .bool (rans s).2]⟩, [⟨.one, [.str s]⟩], []) := if_pos hyp

end Go.Eng

namespace Go.Eng
open Go Go.Proofs

theorem wrap_sub10 {n : Int} (h : -9223372036854775808 ≤ n) (h2 : n ≤ 9223372036854775807) : (1 ≤ IntKind.i64.wrap (n - 10) ∧ IntKind.i64.wrap (n - 10) ≤ 4) ↔ (11 ≤ n ∧ n ≤ 14) := by
  rw [IntKind.wrap_i64]; omega
theorem runB_step {low high : Int} {l : List EV} {i : Nat} (h : i < l.length) : runB low high (l.drop i) = (decide (1 ≤ (l.getD i eZ).1) && (decide (low ≤ (l.getD i eZ).1) && decide ((l.getD i eZ).1 ≤ high)) && decide (((l.getD i eZ).2.size : Int) ≤ 900) && runB (l.getD i eZ).1 high (l.drop (i + 1))) := by
  rw [drop_getD eZ h]; rfl
def placeB (ix it : Int) : Bool := decide ((ix = 0 ∧ it = 0) ∨ ((1 ≤ ix ∧ ix ≤ 100000) ∧ (1 ≤ it ∧ it ≤ 100000)))
def appB (tm ix it cm : Int) (e : List EV) : Bool := placeB ix it && decide (it ≤ tm) && (decide (0 ≤ cm) && decide (cm ≤ 100000)) && decide (e.length ≤ 4) && runB it tm e && decide (ix + e.length ≤ 100000)

theorem g37 (ix it : Int) : Good Try.prog 37 [⟨.one, [.int .i64 ix]⟩, ⟨.one, [.int .i64 it]⟩] [] (⟨.one, [.bool (decide (ix = 0) && decide (it = 0) || (decide (1 ≤ ix) && decide (ix ≤ 100000)) && (decide (1 ≤ it) && decide (it ≤ 100000)))]⟩) [⟨.one, [.int .i64 ix]⟩, ⟨.one, [.int .i64 it]⟩] [] := by
  refine Good_of (E := envOf [(36, c36)]) (envOk_of ⟨ctr36, trivial⟩) Try.func37 m37 rfl ?_
  simp (maxSteps := 1000000) (disch := omega) only [go_sem, wI, wB, x37, r37_0, r37_1, r37_2, r37_3, Root.isRef, Int.toNat_natCast, natS1, natS2, rowsE_at, rowsE_get, rowsE_length, Nat.mul_one, Nat.div_one, Nat.mod_one]
  repeat' (first | ((with_reducible apply scEnd_of); exact rfl; exact rfl) | ((with_reducible apply ScW_of); rfl; rfl; trivial; (intro h; try simp only [HS] at h)) | ((with_reducible apply Br_of) <;> (intro h; (try simp only [h]); (try simp only [HS] at h))) | ((with_reducible first | refine Opt_put_if ?_ ?_ | refine Opt_if ?_ ?_ | refine Opt_bind_if ?_ ?_ | refine Opt_ifb ?_ ?_); (· (first | omega | (refine ⟨?_, ?_⟩ <;> omega) | (refine ⟨?_, ?_, ?_⟩ <;> omega) | (refine ⟨rfl, ?_⟩; simp only [okBig, Bool.and_eq_true, decide_eq_true_eq]; omega)))) | ((with_reducible refine Opt_bind_ifn ?_ ?_); (· omega)) | simp (maxSteps := 1000000) (disch := omega) only [go_sem, wI, wB, Root.isRef, Int.toNat_natCast, natS1, natS2, rowsE_at, rowsE_get, rowsE_length, Nat.mul_one, Nat.div_one, Nat.mod_one])
  all_goals (simp only [Prod.mk.injEq, SV.mk.injEq, List.cons.injEq, Cell.bool.injEq, and_true, true_and, placeB, appB]; rw [Bool.eq_iff_iff]; simp only [Bool.and_eq_true, Bool.or_eq_true, decide_eq_true_eq]; try grind)
noncomputable def c37 : List SV → Refs → Option (SV × List SV × Refs)
  | [⟨.one, [.int .i64 ix]⟩, ⟨.one, [.int .i64 it]⟩], [] => some (⟨.one, [.bool (decide (ix = 0) && decide (it = 0) || (decide (1 ≤ ix) && decide (ix ≤ 100000)) && (decide (1 ≤ it) && decide (it ≤ 100000)))]⟩, [⟨.one, [.int .i64 ix]⟩, ⟨.one, [.int .i64 it]⟩], [])
  | _, _ => none
theorem ctr37 : Ctr Try.prog 37 c37 := by
  refine ⟨k37, fun args rf res args' rf' h => ?_⟩
  unfold c37 at h
  split at h
  · simp only [Option.some.injEq, Prod.mk.injEq] at h
    obtain ⟨rfl, rfl, rfl⟩ := h
    exact g37 _ _
  · simp at h
@[go_sem] theorem c37_eq {ix it : Int} : c37 [⟨.one, [.int .i64 ix]⟩, ⟨.one, [.int .i64 it]⟩] [] = some (⟨.one, [.bool (decide (ix = 0) && decide (it = 0) || (decide (1 ≤ ix) && decide (ix ≤ 100000)) && (decide (1 ≤ it) && decide (it ≤ 100000)))]⟩, [⟨.one, [.int .i64 ix]⟩, ⟨.one, [.int .i64 it]⟩], []) := rfl

theorem g45 (ix it : Int) : Good Try.prog 45 [⟨.one, [.int .i64 ix]⟩, ⟨.one, [.int .i64 it]⟩] [] (⟨.one, [.bool (decide (ix = 0) && decide (it = 0) || (decide (1 ≤ ix) && decide (ix ≤ 100000)) && (decide (1 ≤ it) && decide (it ≤ 100000)))]⟩) [⟨.one, [.int .i64 ix]⟩, ⟨.one, [.int .i64 it]⟩] [] := by
  refine Good_of (E := envOf [(32, c32), (44, c44)]) (envOk_of ⟨ctr32, ⟨ctr44, trivial⟩⟩) Try.func45 m45 rfl ?_
  simp (maxSteps := 1000000) (disch := omega) only [go_sem, wI, wB, x45, r45_0, r45_1, Root.isRef, Int.toNat_natCast, natS1, natS2, rowsE_at, rowsE_get, rowsE_length, Nat.mul_one, Nat.div_one, Nat.mod_one]
  repeat' (first | ((with_reducible apply scEnd_of); exact rfl; exact rfl) | ((with_reducible apply ScW_of); rfl; rfl; trivial; (intro h; try simp only [HS] at h)) | ((with_reducible apply Br_of) <;> (intro h; (try simp only [h]); (try simp only [HS] at h))) | ((with_reducible first | refine Opt_put_if ?_ ?_ | refine Opt_if ?_ ?_ | refine Opt_bind_if ?_ ?_ | refine Opt_ifb ?_ ?_); (· (first | omega | (refine ⟨?_, ?_⟩ <;> omega) | (refine ⟨?_, ?_, ?_⟩ <;> omega) | (refine ⟨rfl, ?_⟩; simp only [okBig, Bool.and_eq_true, decide_eq_true_eq]; omega)))) | ((with_reducible refine Opt_bind_ifn ?_ ?_); (· omega)) | simp (maxSteps := 1000000) (disch := omega) only [go_sem, wI, wB, Root.isRef, Int.toNat_natCast, natS1, natS2, rowsE_at, rowsE_get, rowsE_length, Nat.mul_one, Nat.div_one, Nat.mod_one])
  all_goals (simp only [Prod.mk.injEq, SV.mk.injEq, List.cons.injEq, Cell.bool.injEq, and_true, true_and, placeB, appB]; rw [Bool.eq_iff_iff]; simp only [Bool.and_eq_true, Bool.or_eq_true, decide_eq_true_eq]; try grind)
noncomputable def c45 : List SV → Refs → Option (SV × List SV × Refs)
  | [⟨.one, [.int .i64 ix]⟩, ⟨.one, [.int .i64 it]⟩], [] => some (⟨.one, [.bool (decide (ix = 0) && decide (it = 0) || (decide (1 ≤ ix) && decide (ix ≤ 100000)) && (decide (1 ≤ it) && decide (it ≤ 100000)))]⟩, [⟨.one, [.int .i64 ix]⟩, ⟨.one, [.int .i64 it]⟩], [])
  | _, _ => none
theorem ctr45 : Ctr Try.prog 45 c45 := by
  refine ⟨k45, fun args rf res args' rf' h => ?_⟩
  unfold c45 at h
  split at h
  · simp only [Option.some.injEq, Prod.mk.injEq] at h
    obtain ⟨rfl, rfl, rfl⟩ := h
    exact g45 _ _
  · simp at h
@[go_sem] theorem c45_eq {ix it : Int} : c45 [⟨.one, [.int .i64 ix]⟩, ⟨.one, [.int .i64 it]⟩] [] = some (⟨.one, [.bool (decide (ix = 0) && decide (it = 0) || (decide (1 ≤ ix) && decide (ix ≤ 100000)) && (decide (1 ≤ it) && decide (it ≤ 100000)))]⟩, [⟨.one, [.int .i64 ix]⟩, ⟨.one, [.int .i64 it]⟩], []) := rfl

theorem g49 (a : Int) (hyp : -9223372036854775808 ≤ a ∧ a ≤ 9223372036854775807) : Good Try.prog 49 [⟨.one, [.int .i64 a]⟩] [] (⟨.one, [.bool (decide (11 ≤ a) && decide (a ≤ 14))]⟩) [⟨.one, [.int .i64 a]⟩] [] := by
  refine Good_of (E := envOf [(69, c69)]) (envOk_of ⟨ctr69, trivial⟩) Try.func49 m49 rfl ?_
  simp (maxSteps := 1000000) (disch := omega) only [go_sem, wI, wB, x49, r49_0, r49_1, Root.isRef, Int.toNat_natCast, natS1, natS2, rowsE_at, rowsE_get, rowsE_length, Nat.mul_one, Nat.div_one, Nat.mod_one]
  repeat' (first | ((with_reducible apply scEnd_of); exact rfl; exact rfl) | ((with_reducible apply ScW_of); rfl; rfl; trivial; (intro h; try simp only [HS] at h)) | ((with_reducible apply Br_of) <;> (intro h; (try simp only [h]); (try simp only [HS] at h))) | ((with_reducible first | refine Opt_put_if ?_ ?_ | refine Opt_if ?_ ?_ | refine Opt_bind_if ?_ ?_ | refine Opt_ifb ?_ ?_); (· (first | omega | (refine ⟨?_, ?_⟩ <;> omega) | (refine ⟨?_, ?_, ?_⟩ <;> omega) | (refine ⟨rfl, ?_⟩; simp only [okBig, Bool.and_eq_true, decide_eq_true_eq]; omega)))) | ((with_reducible refine Opt_bind_ifn ?_ ?_); (· omega)) | simp (maxSteps := 1000000) (disch := omega) only [go_sem, wI, wB, Root.isRef, Int.toNat_natCast, natS1, natS2, rowsE_at, rowsE_get, rowsE_length, Nat.mul_one, Nat.div_one, Nat.mod_one])
  all_goals (simp only [Prod.mk.injEq, SV.mk.injEq, List.cons.injEq, Cell.bool.injEq, and_true, true_and]; rw [Bool.eq_iff_iff]; simp only [Bool.and_eq_true, decide_eq_true_eq]; exact wrap_sub10 hyp.1 hyp.2)
noncomputable def c49 : List SV → Refs → Option (SV × List SV × Refs)
  | [⟨.one, [.int .i64 a]⟩], [] => (open Classical in if -9223372036854775808 ≤ a ∧ a ≤ 9223372036854775807 then some (⟨.one, [.bool (decide (11 ≤ a) && decide (a ≤ 14))]⟩, [⟨.one, [.int .i64 a]⟩], []) else none)
  | _, _ => none
theorem ctr49 : Ctr Try.prog 49 c49 := by
  refine ⟨k49, fun args rf res args' rf' h => ?_⟩
  unfold c49 at h
  split at h
  · split at h
    · rename_i hyp
      simp only [Option.some.injEq, Prod.mk.injEq] at h
      obtain ⟨rfl, rfl, rfl⟩ := h
      exact g49 _ hyp
    · simp at h
  · simp at h
theorem c49_eq {a : Int} (hyp : -9223372036854775808 ≤ a ∧ a ≤ 9223372036854775807) : c49 [⟨.one, [.int .i64 a]⟩] [] = some (⟨.one, [.bool (decide (11 ≤ a) && decide (a ≤ 14))]⟩, [⟨.one, [.int .i64 a]⟩], []) := if_pos hyp

theorem g38 (l : List EV) (lo hi : Int) (hyp : l.length ≤ 1048576 ∧ (∀ e ∈ l, e.2.size ≤ 9223372036854775807)) : Good Try.prog 38 [⟨.one, [.ro 2 (rowsE l)]⟩, ⟨.one, [.int .i64 lo]⟩, ⟨.one, [.int .i64 hi]⟩] [] (⟨.one, [.bool (runB lo hi l)]⟩) [⟨.one, [.ro 2 (rowsE l)]⟩, ⟨.one, [.int .i64 lo]⟩, ⟨.one, [.int .i64 hi]⟩] [] := by
  refine Good_of (E := envOf [(36, c36)]) (envOk_of ⟨ctr36, trivial⟩) Try.func38 m38 rfl ?_
  simp (maxSteps := 1000000) (disch := omega) only [go_sem, wI, wB, x38, r38_0, r38_1, r38_2, r38_3, r38_4, r38_6, r38_7, r38_8, r38_5, r38_9, Root.isRef, Int.toNat_natCast, natS1, natS2, rowsE_at, rowsE_get, rowsE_length, Nat.mul_one, Nat.div_one, Nat.mod_one]
  repeat' (first | ((with_reducible apply scEnd_of); exact rfl; exact rfl) | ((with_reducible apply ScW_of); rfl; rfl; trivial; (intro h; try simp only [HS] at h)) | ((with_reducible apply Br_of) <;> (intro h; (try simp only [h]); (try simp only [HS] at h))) | ((with_reducible first | refine Opt_put_if ?_ ?_ | refine Opt_if ?_ ?_ | refine Opt_bind_if ?_ ?_ | refine Opt_ifb ?_ ?_); (· (first | omega | (refine ⟨?_, ?_⟩ <;> omega) | (refine ⟨?_, ?_, ?_⟩ <;> omega) | (refine ⟨rfl, ?_⟩; simp only [okBig, Bool.and_eq_true, decide_eq_true_eq]; omega)))) | ((with_reducible refine Opt_bind_ifn ?_ ?_); (· omega)) | simp (maxSteps := 1000000) (disch := omega) only [go_sem, wI, wB, Root.isRef, Int.toNat_natCast, natS1, natS2, rowsE_at, rowsE_get, rowsE_length, Nat.mul_one, Nat.div_one, Nat.mod_one])
  · refine LoopK_of (α := Nat × Int) (fun p => ⟨[(7, i64 p.1), (2, i64 hi), (1, i64 p.2), (0, ⟨.one, [.ro 2 (rowsE l)]⟩)], [], [(0, ⟨.one, [.ro 2 (rowsE l)]⟩), (1, i64 lo), (2, i64 hi)]⟩) (fun p => p.1 ≤ l.length ∧ runB p.2 hi (l.drop p.1) = runB lo hi l ∧ 1 ≤ p.2) (fun p => l.length - p.1) (0, 1) rfl ⟨Nat.zero_le _, (by rw [List.drop_zero, runB_low lo, if_pos h]), by simp only; omega⟩ ?_
    rintro ⟨i, low⟩ ⟨h1, h2, h3⟩
    simp only at h1 h2 h3
    have hs : i < l.length → (l.getD i eZ).2.size ≤ 9223372036854775807 := fun h => hyp.2 _ (getD_mem eZ h)
    by_cases hx : i < l.length
    · have hs := hs hx
      rw [runB_step hx] at h2
      simp (maxSteps := 1000000) (disch := omega) only [go_sem, wI, wB, x38, r38_0, r38_1, r38_2, r38_3, r38_4, r38_6, r38_7, r38_8, r38_5, r38_9, Root.isRef, Int.toNat_natCast, natS1, natS2, rowsE_at, rowsE_get, rowsE_length, Nat.mul_one, Nat.div_one, Nat.mod_one]
      repeat' (first | ((with_reducible apply scEnd_of); exact rfl; exact rfl) | ((with_reducible apply ScW_of); rfl; rfl; trivial; (intro h; try simp only [HS] at h)) | ((with_reducible apply Br_of) <;> (intro h; (try simp only [h]); (try simp only [HS] at h))) | ((with_reducible first | refine Opt_put_if ?_ ?_ | refine Opt_if ?_ ?_ | refine Opt_bind_if ?_ ?_ | refine Opt_ifb ?_ ?_); (· (first | omega | (refine ⟨?_, ?_⟩ <;> omega) | (refine ⟨?_, ?_, ?_⟩ <;> omega) | (refine ⟨rfl, ?_⟩; simp only [okBig, Bool.and_eq_true, decide_eq_true_eq]; omega) | (refine Nat.le_trans (Nat.add_le_add_left (varS_le _) _) ?_; simp only [size_strOfNums, List.length_cons, List.length_nil, rowsE_length, ByteArray.size_append]; omega) | (refine ⟨rfl, ?_⟩; simp only [okBig, Bool.and_eq_true, decide_eq_true_eq, size_strOfNums, List.length_cons, List.length_nil, rowsE_length, ByteArray.size_append]; omega) | (simp only [size_strOfNums, List.length_cons, List.length_nil, rowsE_length, ByteArray.size_append]; omega)))) | ((with_reducible refine Opt_bind_ifn ?_ ?_); (· omega)) | simp (maxSteps := 1000000) (disch := omega) only [go_sem, wI, wB, Root.isRef, Int.toNat_natCast, natS1, natS2, rowsE_at, rowsE_get, rowsE_length, Nat.mul_one, Nat.div_one, Nat.mod_one])
      all_goals (try (exfalso; omega))
      all_goals (try simp only [Bool.or_eq_true, decide_eq_true_eq, Bool.not_eq_true] at *)
      · have e : runB lo hi l = false := by rw [← h2]; simp only [Bool.and_eq_false_iff, decide_eq_false_iff_not]; omega
        rw [e]
      · refine LoopQ_of (i + 1, (l.getD i eZ).1) rfl ⟨by simp only; omega, ?_, by simp only; omega⟩ (by simp only; omega)
        rw [← h2]
        rw [decide_eq_true (show 1 ≤ (l.getD i eZ).1 by omega), decide_eq_true (show low ≤ (l.getD i eZ).1 by omega), decide_eq_true (show (l.getD i eZ).1 ≤ hi by omega), decide_eq_true (show ((l.getD i eZ).2.size : Int) ≤ 900 by omega)]; rfl
    · simp (maxSteps := 1000000) (disch := omega) only [go_sem, wI, wB, x38, r38_0, r38_1, r38_2, r38_3, r38_4, r38_6, r38_7, r38_8, r38_5, r38_9, Root.isRef, Int.toNat_natCast, natS1, natS2, rowsE_at, rowsE_get, rowsE_length, Nat.mul_one, Nat.div_one, Nat.mod_one]
      repeat' (first | ((with_reducible apply scEnd_of); exact rfl; exact rfl) | ((with_reducible apply ScW_of); rfl; rfl; trivial; (intro h; try simp only [HS] at h)) | ((with_reducible apply Br_of) <;> (intro h; (try simp only [h]); (try simp only [HS] at h))) | ((with_reducible first | refine Opt_put_if ?_ ?_ | refine Opt_if ?_ ?_ | refine Opt_bind_if ?_ ?_ | refine Opt_ifb ?_ ?_); (· (first | omega | (refine ⟨?_, ?_⟩ <;> omega) | (refine ⟨?_, ?_, ?_⟩ <;> omega) | (refine ⟨rfl, ?_⟩; simp only [okBig, Bool.and_eq_true, decide_eq_true_eq]; omega) | (refine Nat.le_trans (Nat.add_le_add_left (varS_le _) _) ?_; simp only [size_strOfNums, List.length_cons, List.length_nil, rowsE_length, ByteArray.size_append]; omega) | (refine ⟨rfl, ?_⟩; simp only [okBig, Bool.and_eq_true, decide_eq_true_eq, size_strOfNums, List.length_cons, List.length_nil, rowsE_length, ByteArray.size_append]; omega) | (simp only [size_strOfNums, List.length_cons, List.length_nil, rowsE_length, ByteArray.size_append]; omega)))) | ((with_reducible refine Opt_bind_ifn ?_ ?_); (· omega)) | simp (maxSteps := 1000000) (disch := omega) only [go_sem, wI, wB, Root.isRef, Int.toNat_natCast, natS1, natS2, rowsE_at, rowsE_get, rowsE_length, Nat.mul_one, Nat.div_one, Nat.mod_one])
      all_goals (try (exfalso; omega))
      · rw [List.drop_of_length_le (by omega), runB] at h2; rw [← h2]
  · refine LoopK_of (α := Nat × Int) (fun p => ⟨[(7, i64 p.1), (2, i64 hi), (1, i64 p.2), (0, ⟨.one, [.ro 2 (rowsE l)]⟩)], [], [(0, ⟨.one, [.ro 2 (rowsE l)]⟩), (1, i64 lo), (2, i64 hi)]⟩) (fun p => p.1 ≤ l.length ∧ runB p.2 hi (l.drop p.1) = runB lo hi l ∧ 1 ≤ p.2) (fun p => l.length - p.1) (0, lo) rfl ⟨Nat.zero_le _, rfl, by simp only; omega⟩ ?_
    rintro ⟨i, low⟩ ⟨h1, h2, h3⟩
    simp only at h1 h2 h3
    have hs : i < l.length → (l.getD i eZ).2.size ≤ 9223372036854775807 := fun h => hyp.2 _ (getD_mem eZ h)
    by_cases hx : i < l.length
    · have hs := hs hx
      rw [runB_step hx] at h2
      simp (maxSteps := 1000000) (disch := omega) only [go_sem, wI, wB, x38, r38_0, r38_1, r38_2, r38_3, r38_4, r38_6, r38_7, r38_8, r38_5, r38_9, Root.isRef, Int.toNat_natCast, natS1, natS2, rowsE_at, rowsE_get, rowsE_length, Nat.mul_one, Nat.div_one, Nat.mod_one]
      repeat' (first | ((with_reducible apply scEnd_of); exact rfl; exact rfl) | ((with_reducible apply ScW_of); rfl; rfl; trivial; (intro h; try simp only [HS] at h)) | ((with_reducible apply Br_of) <;> (intro h; (try simp only [h]); (try simp only [HS] at h))) | ((with_reducible first | refine Opt_put_if ?_ ?_ | refine Opt_if ?_ ?_ | refine Opt_bind_if ?_ ?_ | refine Opt_ifb ?_ ?_); (· (first | omega | (refine ⟨?_, ?_⟩ <;> omega) | (refine ⟨?_, ?_, ?_⟩ <;> omega) | (refine ⟨rfl, ?_⟩; simp only [okBig, Bool.and_eq_true, decide_eq_true_eq]; omega) | (refine Nat.le_trans (Nat.add_le_add_left (varS_le _) _) ?_; simp only [size_strOfNums, List.length_cons, List.length_nil, rowsE_length, ByteArray.size_append]; omega) | (refine ⟨rfl, ?_⟩; simp only [okBig, Bool.and_eq_true, decide_eq_true_eq, size_strOfNums, List.length_cons, List.length_nil, rowsE_length, ByteArray.size_append]; omega) | (simp only [size_strOfNums, List.length_cons, List.length_nil, rowsE_length, ByteArray.size_append]; omega)))) | ((with_reducible refine Opt_bind_ifn ?_ ?_); (· omega)) | simp (maxSteps := 1000000) (disch := omega) only [go_sem, wI, wB, Root.isRef, Int.toNat_natCast, natS1, natS2, rowsE_at, rowsE_get, rowsE_length, Nat.mul_one, Nat.div_one, Nat.mod_one])
      all_goals (try (exfalso; omega))
      all_goals (try simp only [Bool.or_eq_true, decide_eq_true_eq, Bool.not_eq_true] at *)
      · have e : runB lo hi l = false := by rw [← h2]; simp only [Bool.and_eq_false_iff, decide_eq_false_iff_not]; omega
        rw [e]
      · refine LoopQ_of (i + 1, (l.getD i eZ).1) rfl ⟨by simp only; omega, ?_, by simp only; omega⟩ (by simp only; omega)
        rw [← h2]
        rw [decide_eq_true (show 1 ≤ (l.getD i eZ).1 by omega), decide_eq_true (show low ≤ (l.getD i eZ).1 by omega), decide_eq_true (show (l.getD i eZ).1 ≤ hi by omega), decide_eq_true (show ((l.getD i eZ).2.size : Int) ≤ 900 by omega)]; rfl
    · simp (maxSteps := 1000000) (disch := omega) only [go_sem, wI, wB, x38, r38_0, r38_1, r38_2, r38_3, r38_4, r38_6, r38_7, r38_8, r38_5, r38_9, Root.isRef, Int.toNat_natCast, natS1, natS2, rowsE_at, rowsE_get, rowsE_length, Nat.mul_one, Nat.div_one, Nat.mod_one]
      repeat' (first | ((with_reducible apply scEnd_of); exact rfl; exact rfl) | ((with_reducible apply ScW_of); rfl; rfl; trivial; (intro h; try simp only [HS] at h)) | ((with_reducible apply Br_of) <;> (intro h; (try simp only [h]); (try simp only [HS] at h))) | ((with_reducible first | refine Opt_put_if ?_ ?_ | refine Opt_if ?_ ?_ | refine Opt_bind_if ?_ ?_ | refine Opt_ifb ?_ ?_); (· (first | omega | (refine ⟨?_, ?_⟩ <;> omega) | (refine ⟨?_, ?_, ?_⟩ <;> omega) | (refine ⟨rfl, ?_⟩; simp only [okBig, Bool.and_eq_true, decide_eq_true_eq]; omega) | (refine Nat.le_trans (Nat.add_le_add_left (varS_le _) _) ?_; simp only [size_strOfNums, List.length_cons, List.length_nil, rowsE_length, ByteArray.size_append]; omega) | (refine ⟨rfl, ?_⟩; simp only [okBig, Bool.and_eq_true, decide_eq_true_eq, size_strOfNums, List.length_cons, List.length_nil, rowsE_length, ByteArray.size_append]; omega) | (simp only [size_strOfNums, List.length_cons, List.length_nil, rowsE_length, ByteArray.size_append]; omega)))) | ((with_reducible refine Opt_bind_ifn ?_ ?_); (· omega)) | simp (maxSteps := 1000000) (disch := omega) only [go_sem, wI, wB, Root.isRef, Int.toNat_natCast, natS1, natS2, rowsE_at, rowsE_get, rowsE_length, Nat.mul_one, Nat.div_one, Nat.mod_one])
      all_goals (try (exfalso; omega))
      · rw [List.drop_of_length_le (by omega), runB] at h2; rw [← h2]
noncomputable def c38 : List SV → Refs → Option (SV × List SV × Refs) := ctrOf (α := (List EV) × Int × Int) (fun ⟨l, lo, hi⟩ => l.length ≤ 1048576 ∧ (∀ e ∈ l, e.2.size ≤ 9223372036854775807)) (fun ⟨l, lo, hi⟩ => [⟨.one, [.ro 2 (rowsE l)]⟩, ⟨.one, [.int .i64 lo]⟩, ⟨.one, [.int .i64 hi]⟩]) (fun ⟨l, lo, hi⟩ => []) (fun ⟨l, lo, hi⟩ => ⟨.one, [.bool (runB lo hi l)]⟩) (fun ⟨l, lo, hi⟩ => [⟨.one, [.ro 2 (rowsE l)]⟩, ⟨.one, [.int .i64 lo]⟩, ⟨.one, [.int .i64 hi]⟩]) (fun ⟨l, lo, hi⟩ => [])
theorem ctr38 : Ctr Try.prog 38 c38 := ctrOf_ok k38 (fun ⟨l, lo, hi⟩ hyp => g38 _ _ _ hyp)
theorem c38_eq {l : List EV} {lo hi : Int} (hyp : l.length ≤ 1048576 ∧ (∀ e ∈ l, e.2.size ≤ 9223372036854775807)) : c38 [⟨.one, [.ro 2 (rowsE l)]⟩, ⟨.one, [.int .i64 lo]⟩, ⟨.one, [.int .i64 hi]⟩] [] = some (⟨.one, [.bool (runB lo hi l)]⟩, [⟨.one, [.ro 2 (rowsE l)]⟩, ⟨.one, [.int .i64 lo]⟩, ⟨.one, [.int .i64 hi]⟩], []) := ctrOf_eq (α := (List EV) × Int × Int) (x := (l, lo, hi)) (by intro x y h1 h2; simp at h1 h2; first | exact h1 | (simp_all; done) | (ext <;> simp_all)) hyp

theorem g98 (l : List EV) (lo hi : Int) (hyp : l.length ≤ 1048576 ∧ (∀ e ∈ l, e.2.size ≤ 9223372036854775807)) : Good Try.prog 98 [⟨.one, [.ro 2 (rowsE l)]⟩, ⟨.one, [.int .i64 lo]⟩, ⟨.one, [.int .i64 hi]⟩] [] (⟨.one, [.bool (runB lo hi l)]⟩) [⟨.one, [.ro 2 (rowsE l)]⟩, ⟨.one, [.int .i64 lo]⟩, ⟨.one, [.int .i64 hi]⟩] [] := by
  refine Good_of (E := envOf [(32, c32)]) (envOk_of ⟨ctr32, trivial⟩) Try.func98 m98 rfl ?_
  simp (maxSteps := 1000000) (disch := omega) only [go_sem, wI, wB, x98, r98_0, r98_1, r98_2, r98_3, r98_4, r98_5, r98_6, r98_7, r98_8, Root.isRef, Int.toNat_natCast, natS1, natS2, rowsE_at, rowsE_get, rowsE_length, Nat.mul_one, Nat.div_one, Nat.mod_one]
  repeat' (first | ((with_reducible apply scEnd_of); exact rfl; exact rfl) | ((with_reducible apply ScW_of); rfl; rfl; trivial; (intro h; try simp only [HS] at h)) | ((with_reducible apply Br_of) <;> (intro h; (try simp only [h]); (try simp only [HS] at h))) | ((with_reducible first | refine Opt_put_if ?_ ?_ | refine Opt_if ?_ ?_ | refine Opt_bind_if ?_ ?_ | refine Opt_ifb ?_ ?_); (· (first | omega | (refine ⟨?_, ?_⟩ <;> omega) | (refine ⟨?_, ?_, ?_⟩ <;> omega) | (refine ⟨rfl, ?_⟩; simp only [okBig, Bool.and_eq_true, decide_eq_true_eq]; omega)))) | ((with_reducible refine Opt_bind_ifn ?_ ?_); (· omega)) | simp (maxSteps := 1000000) (disch := omega) only [go_sem, wI, wB, Root.isRef, Int.toNat_natCast, natS1, natS2, rowsE_at, rowsE_get, rowsE_length, Nat.mul_one, Nat.div_one, Nat.mod_one])
  refine LoopK_of (α := Nat × Int) (fun p => ⟨[(11, i64 p.1), (10, i64 l.length), (9, ⟨.one, [.ro 2 (rowsE l)]⟩), (2, i64 hi), (1, i64 p.2), (0, ⟨.one, [.ro 2 (rowsE l)]⟩)], [], [(0, ⟨.one, [.ro 2 (rowsE l)]⟩), (1, i64 lo), (2, i64 hi)]⟩) (fun p => p.1 ≤ l.length ∧ runB p.2 hi (l.drop p.1) = runB lo hi l) (fun p => l.length - p.1) (0, lo) rfl ⟨Nat.zero_le _, rfl⟩ ?_
  rintro ⟨i, low⟩ ⟨h1, h2⟩
  simp only at h1 h2
  have hs : i < l.length → (l.getD i eZ).2.size ≤ 9223372036854775807 := fun h => hyp.2 _ (getD_mem eZ h)
  by_cases hx : i < l.length
  · have hs := hs hx
    rw [runB_step hx] at h2
    simp (maxSteps := 1000000) (disch := omega) only [go_sem, wI, wB, x98, r98_0, r98_1, r98_2, r98_3, r98_4, r98_5, r98_6, r98_7, r98_8, Root.isRef, Int.toNat_natCast, natS1, natS2, rowsE_at, rowsE_get, rowsE_length, Nat.mul_one, Nat.div_one, Nat.mod_one]
    repeat' (first | ((with_reducible apply scEnd_of); exact rfl; exact rfl) | ((with_reducible apply ScW_of); rfl; rfl; trivial; (intro h; try simp only [HS] at h)) | ((with_reducible apply Br_of) <;> (intro h; (try simp only [h]); (try simp only [HS] at h))) | ((with_reducible first | refine Opt_put_if ?_ ?_ | refine Opt_if ?_ ?_ | refine Opt_bind_if ?_ ?_ | refine Opt_ifb ?_ ?_); (· (first | omega | (refine ⟨?_, ?_⟩ <;> omega) | (refine ⟨?_, ?_, ?_⟩ <;> omega) | (refine ⟨rfl, ?_⟩; simp only [okBig, Bool.and_eq_true, decide_eq_true_eq]; omega) | (refine Nat.le_trans (Nat.add_le_add_left (varS_le _) _) ?_; simp only [size_strOfNums, List.length_cons, List.length_nil, rowsE_length, ByteArray.size_append]; omega) | (refine ⟨rfl, ?_⟩; simp only [okBig, Bool.and_eq_true, decide_eq_true_eq, size_strOfNums, List.length_cons, List.length_nil, rowsE_length, ByteArray.size_append]; omega) | (simp only [size_strOfNums, List.length_cons, List.length_nil, rowsE_length, ByteArray.size_append]; omega)))) | ((with_reducible refine Opt_bind_ifn ?_ ?_); (· omega)) | simp (maxSteps := 1000000) (disch := omega) only [go_sem, wI, wB, Root.isRef, Int.toNat_natCast, natS1, natS2, rowsE_at, rowsE_get, rowsE_length, Nat.mul_one, Nat.div_one, Nat.mod_one])
    all_goals (try (exfalso; omega))
    all_goals (try simp only [Bool.or_eq_true, decide_eq_true_eq, Bool.not_eq_true] at *)
    · have e : runB lo hi l = false := by rw [← h2]; simp only [Bool.and_eq_false_iff, decide_eq_false_iff_not]; omega
      rw [e]
    · refine LoopQ_of (i + 1, (l.getD i eZ).1) rfl ⟨by simp only; omega, ?_⟩ (by simp only; omega)
      rw [← h2]
      rw [decide_eq_true (show 1 ≤ (l.getD i eZ).1 by omega), decide_eq_true (show low ≤ (l.getD i eZ).1 by omega), decide_eq_true (show (l.getD i eZ).1 ≤ hi by omega), decide_eq_true (show ((l.getD i eZ).2.size : Int) ≤ 900 by omega)]; rfl
  · simp (maxSteps := 1000000) (disch := omega) only [go_sem, wI, wB, x98, r98_0, r98_1, r98_2, r98_3, r98_4, r98_5, r98_6, r98_7, r98_8, Root.isRef, Int.toNat_natCast, natS1, natS2, rowsE_at, rowsE_get, rowsE_length, Nat.mul_one, Nat.div_one, Nat.mod_one]
    repeat' (first | ((with_reducible apply scEnd_of); exact rfl; exact rfl) | ((with_reducible apply ScW_of); rfl; rfl; trivial; (intro h; try simp only [HS] at h)) | ((with_reducible apply Br_of) <;> (intro h; (try simp only [h]); (try simp only [HS] at h))) | ((with_reducible first | refine Opt_put_if ?_ ?_ | refine Opt_if ?_ ?_ | refine Opt_bind_if ?_ ?_ | refine Opt_ifb ?_ ?_); (· (first | omega | (refine ⟨?_, ?_⟩ <;> omega) | (refine ⟨?_, ?_, ?_⟩ <;> omega) | (refine ⟨rfl, ?_⟩; simp only [okBig, Bool.and_eq_true, decide_eq_true_eq]; omega) | (refine Nat.le_trans (Nat.add_le_add_left (varS_le _) _) ?_; simp only [size_strOfNums, List.length_cons, List.length_nil, rowsE_length, ByteArray.size_append]; omega) | (refine ⟨rfl, ?_⟩; simp only [okBig, Bool.and_eq_true, decide_eq_true_eq, size_strOfNums, List.length_cons, List.length_nil, rowsE_length, ByteArray.size_append]; omega) | (simp only [size_strOfNums, List.length_cons, List.length_nil, rowsE_length, ByteArray.size_append]; omega)))) | ((with_reducible refine Opt_bind_ifn ?_ ?_); (· omega)) | simp (maxSteps := 1000000) (disch := omega) only [go_sem, wI, wB, Root.isRef, Int.toNat_natCast, natS1, natS2, rowsE_at, rowsE_get, rowsE_length, Nat.mul_one, Nat.div_one, Nat.mod_one])
    all_goals (try (exfalso; omega))
    · rw [List.drop_of_length_le (by omega), runB] at h2; rw [← h2]
noncomputable def c98 : List SV → Refs → Option (SV × List SV × Refs) := ctrOf (α := (List EV) × Int × Int) (fun ⟨l, lo, hi⟩ => l.length ≤ 1048576 ∧ (∀ e ∈ l, e.2.size ≤ 9223372036854775807)) (fun ⟨l, lo, hi⟩ => [⟨.one, [.ro 2 (rowsE l)]⟩, ⟨.one, [.int .i64 lo]⟩, ⟨.one, [.int .i64 hi]⟩]) (fun ⟨l, lo, hi⟩ => []) (fun ⟨l, lo, hi⟩ => ⟨.one, [.bool (runB lo hi l)]⟩) (fun ⟨l, lo, hi⟩ => [⟨.one, [.ro 2 (rowsE l)]⟩, ⟨.one, [.int .i64 lo]⟩, ⟨.one, [.int .i64 hi]⟩]) (fun ⟨l, lo, hi⟩ => [])
theorem ctr98 : Ctr Try.prog 98 c98 := ctrOf_ok k98 (fun ⟨l, lo, hi⟩ hyp => g98 _ _ _ hyp)
theorem c98_eq {l : List EV} {lo hi : Int} (hyp : l.length ≤ 1048576 ∧ (∀ e ∈ l, e.2.size ≤ 9223372036854775807)) : c98 [⟨.one, [.ro 2 (rowsE l)]⟩, ⟨.one, [.int .i64 lo]⟩, ⟨.one, [.int .i64 hi]⟩] [] = some (⟨.one, [.bool (runB lo hi l)]⟩, [⟨.one, [.ro 2 (rowsE l)]⟩, ⟨.one, [.int .i64 lo]⟩, ⟨.one, [.int .i64 hi]⟩], []) := ctrOf_eq (α := (List EV) × Int × Int) (x := (l, lo, hi)) (by intro x y h1 h2; simp at h1 h2; first | exact h1 | (simp_all; done) | (ext <;> simp_all)) hyp

theorem g46 (k fr to tm ix it cm : Int) (y : Bool) (e : List EV) (d : ByteArray) (k2 fr2 to2 tm2 ix2 it2 cm2 : Int) (y2 : Bool) (e2 : List EV) (d2 : ByteArray) (hyp : e.length ≤ 1048576 ∧ e2.length ≤ 1048576) : Good Try.prog 46 [⟨.agg, [.int .i64 k, .int .i64 fr, .int .i64 to, .int .i64 tm, .int .i64 ix, .int .i64 it, .int .i64 cm, .bool y, .ro 2 (rowsE e), .str d]⟩, ⟨.agg, [.int .i64 k2, .int .i64 fr2, .int .i64 to2, .int .i64 tm2, .int .i64 ix2, .int .i64 it2, .int .i64 cm2, .bool y2, .ro 2 (rowsE e2), .str d2]⟩] [] (⟨.one, [.bool (decide (tm = tm2) && decide (ix = ix2) && decide (it = it2) && decide (cm = cm2) && y == y2 && decide ((e.length : Int) = e2.length) && decide (d = d2))]⟩) [⟨.agg, [.int .i64 k, .int .i64 fr, .int .i64 to, .int .i64 tm, .int .i64 ix, .int .i64 it, .int .i64 cm, .bool y, .ro 2 (rowsE e), .str d]⟩, ⟨.agg, [.int .i64 k2, .int .i64 fr2, .int .i64 to2, .int .i64 tm2, .int .i64 ix2, .int .i64 it2, .int .i64 cm2, .bool y2, .ro 2 (rowsE e2), .str d2]⟩] [] := by
  refine Good_of (E := envOf []) (envOk_of trivial) Try.func46 m46 rfl ?_
  simp (maxSteps := 1000000) (disch := omega) only [go_sem, wI, wB, x46, r46_0, r46_1, Root.isRef, Int.toNat_natCast, natS1, natS2, rowsE_at, rowsE_get, rowsE_length, Nat.mul_one, Nat.div_one, Nat.mod_one]
  repeat' (first | ((with_reducible apply scEnd_of); exact rfl; exact rfl) | ((with_reducible apply ScW_of); rfl; rfl; trivial; (intro h; try simp only [HS] at h)) | ((with_reducible apply Br_of) <;> (intro h; (try simp only [h]); (try simp only [HS] at h))) | ((with_reducible first | refine Opt_put_if ?_ ?_ | refine Opt_if ?_ ?_ | refine Opt_bind_if ?_ ?_ | refine Opt_ifb ?_ ?_); (· (first | omega | (refine ⟨?_, ?_⟩ <;> omega) | (refine ⟨?_, ?_, ?_⟩ <;> omega) | (refine ⟨rfl, ?_⟩; simp only [okBig, Bool.and_eq_true, decide_eq_true_eq]; omega) | (refine Nat.le_trans (Nat.add_le_add_left (varS_le _) _) ?_; simp only [size_strOfNums, List.length_cons, List.length_nil, rowsE_length, ByteArray.size_append]; omega) | (refine ⟨rfl, ?_⟩; simp only [okBig, Bool.and_eq_true, decide_eq_true_eq, size_strOfNums, List.length_cons, List.length_nil, rowsE_length, ByteArray.size_append]; omega) | (simp only [size_strOfNums, List.length_cons, List.length_nil, rowsE_length, ByteArray.size_append]; omega)))) | ((with_reducible refine Opt_bind_ifn ?_ ?_); (· omega)) | simp (maxSteps := 1000000) (disch := omega) only [go_sem, wI, wB, Root.isRef, Int.toNat_natCast, natS1, natS2, rowsE_at, rowsE_get, rowsE_length, Nat.mul_one, Nat.div_one, Nat.mod_one])
  all_goals rfl
noncomputable def c46 : List SV → Refs → Option (SV × List SV × Refs) := ctrOf (α := Int × Int × Int × Int × Int × Int × Int × Bool × (List EV) × ByteArray × Int × Int × Int × Int × Int × Int × Int × Bool × (List EV) × ByteArray) (fun ⟨k, fr, to, tm, ix, it, cm, y, e, d, k2, fr2, to2, tm2, ix2, it2, cm2, y2, e2, d2⟩ => e.length ≤ 1048576 ∧ e2.length ≤ 1048576) (fun ⟨k, fr, to, tm, ix, it, cm, y, e, d, k2, fr2, to2, tm2, ix2, it2, cm2, y2, e2, d2⟩ => [⟨.agg, [.int .i64 k, .int .i64 fr, .int .i64 to, .int .i64 tm, .int .i64 ix, .int .i64 it, .int .i64 cm, .bool y, .ro 2 (rowsE e), .str d]⟩, ⟨.agg, [.int .i64 k2, .int .i64 fr2, .int .i64 to2, .int .i64 tm2, .int .i64 ix2, .int .i64 it2, .int .i64 cm2, .bool y2, .ro 2 (rowsE e2), .str d2]⟩]) (fun ⟨k, fr, to, tm, ix, it, cm, y, e, d, k2, fr2, to2, tm2, ix2, it2, cm2, y2, e2, d2⟩ => []) (fun ⟨k, fr, to, tm, ix, it, cm, y, e, d, k2, fr2, to2, tm2, ix2, it2, cm2, y2, e2, d2⟩ => ⟨.one, [.bool (decide (tm = tm2) && decide (ix = ix2) && decide (it = it2) && decide (cm = cm2) && y == y2 && decide ((e.length : Int) = e2.length) && decide (d = d2))]⟩) (fun ⟨k, fr, to, tm, ix, it, cm, y, e, d, k2, fr2, to2, tm2, ix2, it2, cm2, y2, e2, d2⟩ => [⟨.agg, [.int .i64 k, .int .i64 fr, .int .i64 to, .int .i64 tm, .int .i64 ix, .int .i64 it, .int .i64 cm, .bool y, .ro 2 (rowsE e), .str d]⟩, ⟨.agg, [.int .i64 k2, .int .i64 fr2, .int .i64 to2, .int .i64 tm2, .int .i64 ix2, .int .i64 it2, .int .i64 cm2, .bool y2, .ro 2 (rowsE e2), .str d2]⟩]) (fun ⟨k, fr, to, tm, ix, it, cm, y, e, d, k2, fr2, to2, tm2, ix2, it2, cm2, y2, e2, d2⟩ => [])
theorem ctr46 : Ctr Try.prog 46 c46 := ctrOf_ok k46 (fun ⟨k, fr, to, tm, ix, it, cm, y, e, d, k2, fr2, to2, tm2, ix2, it2, cm2, y2, e2, d2⟩ hyp => g46 _ _ _ _ _ _ _ _ _ _ _ _ _ _ _ _ _ _ _ _ hyp)
theorem c46_eq {k fr to tm ix it cm : Int} {y : Bool} {e : List EV} {d : ByteArray} {k2 fr2 to2 tm2 ix2 it2 cm2 : Int} {y2 : Bool} {e2 : List EV} {d2 : ByteArray} (hyp : e.length ≤ 1048576 ∧ e2.length ≤ 1048576) : c46 [⟨.agg, [.int .i64 k, .int .i64 fr, .int .i64 to, .int .i64 tm, .int .i64 ix, .int .i64 it, .int .i64 cm, .bool y, .ro 2 (rowsE e), .str d]⟩, ⟨.agg, [.int .i64 k2, .int .i64 fr2, .int .i64 to2, .int .i64 tm2, .int .i64 ix2, .int .i64 it2, .int .i64 cm2, .bool y2, .ro 2 (rowsE e2), .str d2]⟩] [] = some (⟨.one, [.bool (decide (tm = tm2) && decide (ix = ix2) && decide (it = it2) && decide (cm = cm2) && y == y2 && decide ((e.length : Int) = e2.length) && decide (d = d2))]⟩, [⟨.agg, [.int .i64 k, .int .i64 fr, .int .i64 to, .int .i64 tm, .int .i64 ix, .int .i64 it, .int .i64 cm, .bool y, .ro 2 (rowsE e), .str d]⟩, ⟨.agg, [.int .i64 k2, .int .i64 fr2, .int .i64 to2, .int .i64 tm2, .int .i64 ix2, .int .i64 it2, .int .i64 cm2, .bool y2, .ro 2 (rowsE e2), .str d2]⟩], []) := ctrOf_eq (α := Int × Int × Int × Int × Int × Int × Int × Bool × (List EV) × ByteArray × Int × Int × Int × Int × Int × Int × Int × Bool × (List EV) × ByteArray) (x := (k, fr, to, tm, ix, it, cm, y, e, d, k2, fr2, to2, tm2, ix2, it2, cm2, y2, e2, d2)) (by intro x y h1 h2; simp at h1 h2; first | exact h1 | (simp_all; done) | (ext <;> simp_all)) hyp

theorem rowsE_nil : rowsE [] = [] := rfl
theorem c46_nil {k fr to tm ix it cm : Int} {y : Bool} {e : List EV} {d : ByteArray} {k2 fr2 to2 tm2 ix2 it2 cm2 : Int} {y2 : Bool} {d2 : ByteArray} (hyp : e.length ≤ 1048576) : c46 [⟨.agg, [.int .i64 k, .int .i64 fr, .int .i64 to, .int .i64 tm, .int .i64 ix, .int .i64 it, .int .i64 cm, .bool y, .ro 2 (rowsE e), .str d]⟩, ⟨.agg, [.int .i64 k2, .int .i64 fr2, .int .i64 to2, .int .i64 tm2, .int .i64 ix2, .int .i64 it2, .int .i64 cm2, .bool y2, .ro 2 ([]), .str d2]⟩] [] = some (⟨.one, [.bool (decide (tm = tm2) && decide (ix = ix2) && decide (it = it2) && decide (cm = cm2) && y == y2 && decide ((e.length : Int) = (([] : List EV)).length) && decide (d = d2))]⟩, [⟨.agg, [.int .i64 k, .int .i64 fr, .int .i64 to, .int .i64 tm, .int .i64 ix, .int .i64 it, .int .i64 cm, .bool y, .ro 2 (rowsE e), .str d]⟩, ⟨.agg, [.int .i64 k2, .int .i64 fr2, .int .i64 to2, .int .i64 tm2, .int .i64 ix2, .int .i64 it2, .int .i64 cm2, .bool y2, .ro 2 ([]), .str d2]⟩], []) := c46_eq (e2 := []) ⟨hyp, by simp⟩

theorem g47 (k fr to tm ix it cm : Int) (y : Bool) (e : List EV) (d : ByteArray) (hyp : e.length ≤ 1048576 ∧ (∀ p ∈ e, p.2.size ≤ 9223372036854775807)) : Good Try.prog 47 [⟨.agg, [.int .i64 k, .int .i64 fr, .int .i64 to, .int .i64 tm, .int .i64 ix, .int .i64 it, .int .i64 cm, .bool y, .ro 2 (rowsE e), .str d]⟩] [] (⟨.one, [.bool (appB tm ix it cm e)]⟩) [⟨.agg, [.int .i64 k, .int .i64 fr, .int .i64 to, .int .i64 tm, .int .i64 ix, .int .i64 it, .int .i64 cm, .bool y, .ro 2 (rowsE e), .str d]⟩] [] := by
  refine Good_of (E := envOf [(45, c45), (32, c32), (98, c98)]) (envOk_of ⟨ctr45, ⟨ctr32, ⟨ctr98, trivial⟩⟩⟩) Try.func47 m47 rfl ?_
  simp (maxSteps := 1000000) (disch := omega) only [go_sem, wI, wB, x47, r47_0, r47_1, Root.isRef, Int.toNat_natCast, natS1, natS2, rowsE_at, rowsE_get, rowsE_length, Nat.mul_one, Nat.div_one, Nat.mod_one, c45_eq, c98_eq hyp]
  repeat' (first | ((with_reducible apply scEnd_of); exact rfl; exact rfl) | ((with_reducible apply ScW_of); rfl; rfl; trivial; (intro h; try simp only [HS] at h)) | ((with_reducible apply Br_of) <;> (intro h; (try simp only [h]); (try simp only [HS] at h))) | ((with_reducible first | refine Opt_put_if ?_ ?_ | refine Opt_if ?_ ?_ | refine Opt_bind_if ?_ ?_ | refine Opt_ifb ?_ ?_); (· (first | omega | (refine ⟨?_, ?_⟩ <;> omega) | (refine ⟨?_, ?_, ?_⟩ <;> omega) | (refine ⟨rfl, ?_⟩; simp only [okBig, Bool.and_eq_true, decide_eq_true_eq]; omega) | (refine Nat.le_trans (Nat.add_le_add_left (varS_le _) _) ?_; simp only [size_strOfNums, List.length_cons, List.length_nil, rowsE_length, ByteArray.size_append]; omega) | (refine ⟨rfl, ?_⟩; simp only [okBig, Bool.and_eq_true, decide_eq_true_eq, size_strOfNums, List.length_cons, List.length_nil, rowsE_length, ByteArray.size_append]; omega) | (simp only [size_strOfNums, List.length_cons, List.length_nil, rowsE_length, ByteArray.size_append]; omega)))) | ((with_reducible refine Opt_bind_ifn ?_ ?_); (· omega)) | simp (maxSteps := 1000000) (disch := omega) only [go_sem, wI, wB, Root.isRef, Int.toNat_natCast, natS1, natS2, rowsE_at, rowsE_get, rowsE_length, Nat.mul_one, Nat.div_one, Nat.mod_one, c45_eq, c98_eq hyp])
  all_goals (simp only [Prod.mk.injEq, SV.mk.injEq, List.cons.injEq, Cell.bool.injEq, and_true, true_and, placeB, appB]; rw [Bool.eq_iff_iff]; simp only [Bool.and_eq_true, Bool.or_eq_true, decide_eq_true_eq]; try grind)
noncomputable def c47 : List SV → Refs → Option (SV × List SV × Refs) := ctrOf (α := Int × Int × Int × Int × Int × Int × Int × Bool × (List EV) × ByteArray) (fun ⟨k, fr, to, tm, ix, it, cm, y, e, d⟩ => e.length ≤ 1048576 ∧ (∀ p ∈ e, p.2.size ≤ 9223372036854775807)) (fun ⟨k, fr, to, tm, ix, it, cm, y, e, d⟩ => [⟨.agg, [.int .i64 k, .int .i64 fr, .int .i64 to, .int .i64 tm, .int .i64 ix, .int .i64 it, .int .i64 cm, .bool y, .ro 2 (rowsE e), .str d]⟩]) (fun ⟨k, fr, to, tm, ix, it, cm, y, e, d⟩ => []) (fun ⟨k, fr, to, tm, ix, it, cm, y, e, d⟩ => ⟨.one, [.bool (appB tm ix it cm e)]⟩) (fun ⟨k, fr, to, tm, ix, it, cm, y, e, d⟩ => [⟨.agg, [.int .i64 k, .int .i64 fr, .int .i64 to, .int .i64 tm, .int .i64 ix, .int .i64 it, .int .i64 cm, .bool y, .ro 2 (rowsE e), .str d]⟩]) (fun ⟨k, fr, to, tm, ix, it, cm, y, e, d⟩ => [])
theorem ctr47 : Ctr Try.prog 47 c47 := ctrOf_ok k47 (fun ⟨k, fr, to, tm, ix, it, cm, y, e, d⟩ hyp => g47 _ _ _ _ _ _ _ _ _ _ hyp)
theorem c47_eq {k fr to tm ix it cm : Int} {y : Bool} {e : List EV} {d : ByteArray} (hyp : e.length ≤ 1048576 ∧ (∀ p ∈ e, p.2.size ≤ 9223372036854775807)) : c47 [⟨.agg, [.int .i64 k, .int .i64 fr, .int .i64 to, .int .i64 tm, .int .i64 ix, .int .i64 it, .int .i64 cm, .bool y, .ro 2 (rowsE e), .str d]⟩] [] = some (⟨.one, [.bool (appB tm ix it cm e)]⟩, [⟨.agg, [.int .i64 k, .int .i64 fr, .int .i64 to, .int .i64 tm, .int .i64 ix, .int .i64 it, .int .i64 cm, .bool y, .ro 2 (rowsE e), .str d]⟩], []) := ctrOf_eq (α := Int × Int × Int × Int × Int × Int × Int × Bool × (List EV) × ByteArray) (x := (k, fr, to, tm, ix, it, cm, y, e, d)) (by intro x y h1 h2; simp at h1 h2; first | exact h1 | (simp_all; done) | (ext <;> simp_all)) hyp

theorem g41 (k fr to tm ix it cm : Int) (y : Bool) (e : List EV) (d : ByteArray) (k2 fr2 to2 tm2 ix2 it2 cm2 : Int) (y2 : Bool) (e2 : List EV) (d2 : ByteArray) (hyp : e.length ≤ 1048576) : Good Try.prog 41 [⟨.agg, [.int .i64 k, .int .i64 fr, .int .i64 to, .int .i64 tm, .int .i64 ix, .int .i64 it, .int .i64 cm, .bool y, .ro 2 (rowsE e), .str d]⟩, ⟨.agg, [.int .i64 k2, .int .i64 fr2, .int .i64 to2, .int .i64 tm2, .int .i64 ix2, .int .i64 it2, .int .i64 cm2, .bool y2, .ro 2 (rowsE e2), .str d2]⟩] [] (⟨.one, [.bool (decide (k = k2) && decide (fr = fr2) && decide (to = to2) && decide (tm = tm2) && decide (ix = ix2) && decide (it = it2) && decide (cm = cm2) && decide (y = y2) && decide (d = d2) && eqE e e2)]⟩) [⟨.agg, [.int .i64 k, .int .i64 fr, .int .i64 to, .int .i64 tm, .int .i64 ix, .int .i64 it, .int .i64 cm, .bool y, .ro 2 (rowsE e), .str d]⟩, ⟨.agg, [.int .i64 k2, .int .i64 fr2, .int .i64 to2, .int .i64 tm2, .int .i64 ix2, .int .i64 it2, .int .i64 cm2, .bool y2, .ro 2 (rowsE e2), .str d2]⟩] [] := by
  refine Good_of (E := envOf [(96, c96)]) (envOk_of ⟨ctr96, trivial⟩) Try.func41 m41 rfl ?_
  simp (maxSteps := 1000000) (disch := omega) only [go_sem, wI, wB, x41, r41_0, r41_1, r41_2, r41_3, Root.isRef, Int.toNat_natCast, natS1, natS2, rowsE_at, rowsE_get, rowsE_length, Nat.mul_one, Nat.div_one, Nat.mod_one, c96_eq]
  repeat' (first | ((with_reducible apply scEnd_of); exact rfl; exact rfl) | ((with_reducible apply ScW_of); rfl; rfl; trivial; (intro h; try simp only [HS] at h)) | ((with_reducible apply Br_of) <;> (intro h; (try simp only [h]); (try simp only [HS] at h))) | ((with_reducible first | refine Opt_put_if ?_ ?_ | refine Opt_if ?_ ?_ | refine Opt_bind_if ?_ ?_ | refine Opt_ifb ?_ ?_); (· (first | omega | (refine ⟨?_, ?_⟩ <;> omega) | (refine ⟨?_, ?_, ?_⟩ <;> omega) | (refine ⟨rfl, ?_⟩; simp only [okBig, Bool.and_eq_true, decide_eq_true_eq]; omega) | (refine Nat.le_trans (Nat.add_le_add_left (varS_le _) _) ?_; simp only [size_strOfNums, List.length_cons, List.length_nil, rowsE_length, ByteArray.size_append]; omega) | (refine ⟨rfl, ?_⟩; simp only [okBig, Bool.and_eq_true, decide_eq_true_eq, size_strOfNums, List.length_cons, List.length_nil, rowsE_length, ByteArray.size_append]; omega) | (simp only [size_strOfNums, List.length_cons, List.length_nil, rowsE_length, ByteArray.size_append]; omega)))) | ((with_reducible refine Opt_bind_ifn ?_ ?_); (· omega)) | simp (maxSteps := 1000000) (disch := omega) only [go_sem, wI, wB, Root.isRef, Int.toNat_natCast, natS1, natS2, rowsE_at, rowsE_get, rowsE_length, Nat.mul_one, Nat.div_one, Nat.mod_one, c96_eq])
  all_goals (simp only [Prod.mk.injEq, SV.mk.injEq, List.cons.injEq, Cell.bool.injEq, and_true, true_and])
  · symm; simp only [Bool.and_eq_false_iff, decide_eq_false_iff_not]; grind
  · obtain ⟨⟨⟨⟨⟨⟨⟨⟨rfl, rfl⟩, rfl⟩, rfl⟩, rfl⟩, rfl⟩, rfl⟩, hy⟩, rfl⟩ := h
    have hy : y = y2 := by revert hy; cases y <;> cases y2 <;> simp
    subst hy; simp
noncomputable def c41 : List SV → Refs → Option (SV × List SV × Refs) := ctrOf (α := Int × Int × Int × Int × Int × Int × Int × Bool × (List EV) × ByteArray × Int × Int × Int × Int × Int × Int × Int × Bool × (List EV) × ByteArray) (fun ⟨k, fr, to, tm, ix, it, cm, y, e, d, k2, fr2, to2, tm2, ix2, it2, cm2, y2, e2, d2⟩ => e.length ≤ 1048576) (fun ⟨k, fr, to, tm, ix, it, cm, y, e, d, k2, fr2, to2, tm2, ix2, it2, cm2, y2, e2, d2⟩ => [⟨.agg, [.int .i64 k, .int .i64 fr, .int .i64 to, .int .i64 tm, .int .i64 ix, .int .i64 it, .int .i64 cm, .bool y, .ro 2 (rowsE e), .str d]⟩, ⟨.agg, [.int .i64 k2, .int .i64 fr2, .int .i64 to2, .int .i64 tm2, .int .i64 ix2, .int .i64 it2, .int .i64 cm2, .bool y2, .ro 2 (rowsE e2), .str d2]⟩]) (fun ⟨k, fr, to, tm, ix, it, cm, y, e, d, k2, fr2, to2, tm2, ix2, it2, cm2, y2, e2, d2⟩ => []) (fun ⟨k, fr, to, tm, ix, it, cm, y, e, d, k2, fr2, to2, tm2, ix2, it2, cm2, y2, e2, d2⟩ => ⟨.one, [.bool (decide (k = k2) && decide (fr = fr2) && decide (to = to2) && decide (tm = tm2) && decide (ix = ix2) && decide (it = it2) && decide (cm = cm2) && decide (y = y2) && decide (d = d2) && eqE e e2)]⟩) (fun ⟨k, fr, to, tm, ix, it, cm, y, e, d, k2, fr2, to2, tm2, ix2, it2, cm2, y2, e2, d2⟩ => [⟨.agg, [.int .i64 k, .int .i64 fr, .int .i64 to, .int .i64 tm, .int .i64 ix, .int .i64 it, .int .i64 cm, .bool y, .ro 2 (rowsE e), .str d]⟩, ⟨.agg, [.int .i64 k2, .int .i64 fr2, .int .i64 to2, .int .i64 tm2, .int .i64 ix2, .int .i64 it2, .int .i64 cm2, .bool y2, .ro 2 (rowsE e2), .str d2]⟩]) (fun ⟨k, fr, to, tm, ix, it, cm, y, e, d, k2, fr2, to2, tm2, ix2, it2, cm2, y2, e2, d2⟩ => [])
theorem ctr41 : Ctr Try.prog 41 c41 := ctrOf_ok k41 (fun ⟨k, fr, to, tm, ix, it, cm, y, e, d, k2, fr2, to2, tm2, ix2, it2, cm2, y2, e2, d2⟩ hyp => g41 _ _ _ _ _ _ _ _ _ _ _ _ _ _ _ _ _ _ _ _ hyp)
theorem c41_eq {k fr to tm ix it cm : Int} {y : Bool} {e : List EV} {d : ByteArray} {k2 fr2 to2 tm2 ix2 it2 cm2 : Int} {y2 : Bool} {e2 : List EV} {d2 : ByteArray} (hyp : e.length ≤ 1048576) : c41 [⟨.agg, [.int .i64 k, .int .i64 fr, .int .i64 to, .int .i64 tm, .int .i64 ix, .int .i64 it, .int .i64 cm, .bool y, .ro 2 (rowsE e), .str d]⟩, ⟨.agg, [.int .i64 k2, .int .i64 fr2, .int .i64 to2, .int .i64 tm2, .int .i64 ix2, .int .i64 it2, .int .i64 cm2, .bool y2, .ro 2 (rowsE e2), .str d2]⟩] [] = some (⟨.one, [.bool (decide (k = k2) && decide (fr = fr2) && decide (to = to2) && decide (tm = tm2) && decide (ix = ix2) && decide (it = it2) && decide (cm = cm2) && decide (y = y2) && decide (d = d2) && eqE e e2)]⟩, [⟨.agg, [.int .i64 k, .int .i64 fr, .int .i64 to, .int .i64 tm, .int .i64 ix, .int .i64 it, .int .i64 cm, .bool y, .ro 2 (rowsE e), .str d]⟩, ⟨.agg, [.int .i64 k2, .int .i64 fr2, .int .i64 to2, .int .i64 tm2, .int .i64 ix2, .int .i64 it2, .int .i64 cm2, .bool y2, .ro 2 (rowsE e2), .str d2]⟩], []) := ctrOf_eq (α := Int × Int × Int × Int × Int × Int × Int × Bool × (List EV) × ByteArray × Int × Int × Int × Int × Int × Int × Int × Bool × (List EV) × ByteArray) (x := (k, fr, to, tm, ix, it, cm, y, e, d, k2, fr2, to2, tm2, ix2, it2, cm2, y2, e2, d2)) (by intro x y h1 h2; simp at h1 h2; first | exact h1 | (simp_all; done) | (ext <;> simp_all)) hyp

end Go.Eng

namespace Go.Eng
open Go Go.Proofs

def zP (tm ix it cm : Int) (y : Bool) (e : List EV) (d : ByteArray) (a b c f : Int) (g : Bool) (h : ByteArray) : Prop := tm = a ∧ ix = b ∧ it = c ∧ cm = f ∧ y = g ∧ e = [] ∧ d = h
def srvP (fr to tm : Int) : Prop := (0 ≤ fr ∧ fr ≤ 4) ∧ (0 ≤ to ∧ to ≤ 4) ∧ fr ≠ to ∧ (1 ≤ tm ∧ tm ≤ 100000)
def placeP (ix it : Int) : Prop := (ix = 0 ∧ it = 0) ∨ ((1 ≤ ix ∧ ix ≤ 100000) ∧ (1 ≤ it ∧ it ≤ 100000))
def msgP (k fr to tm ix it cm : Int) (y : Bool) (e : List EV) (d : ByteArray) : Prop :=
  (k = 1 ∧ srvP fr to tm ∧ placeP ix it ∧ it ≤ tm ∧ cm = 0 ∧ y = false ∧ e = [] ∧ d = ⟨#[]⟩) ∨
  (k = 2 ∧ srvP fr to tm ∧ ix = 0 ∧ it = 0 ∧ cm = 0 ∧ e = [] ∧ d = ⟨#[]⟩) ∨
  (k = 3 ∧ srvP fr to tm ∧ appB tm ix it cm e = true ∧ y = false ∧ d = ⟨#[]⟩) ∨
  (k = 4 ∧ srvP fr to tm ∧ (0 ≤ ix ∧ ix ≤ 100000) ∧ it = 0 ∧ cm = 0 ∧ e = [] ∧ d = ⟨#[]⟩) ∨
  (k = 5 ∧ srvP fr to tm ∧ (1 ≤ ix ∧ ix ≤ 100000) ∧ (1 ≤ it ∧ it ≤ tm) ∧ (d.size : Int) ≤ 30000 ∧ cm = 0 ∧ y = false ∧ e = []) ∨
  (k = 6 ∧ (11 ≤ fr ∧ fr ≤ 14) ∧ (0 ≤ to ∧ to ≤ 4) ∧ (1 ≤ ix ∧ ix ≤ 1000000) ∧ (rop d).2 = true ∧ tm = 0 ∧ it = 0 ∧ cm = 0 ∧ y = false ∧ e = []) ∨
  (k = 7 ∧ (0 ≤ fr ∧ fr ≤ 4) ∧ (11 ≤ to ∧ to ≤ 14) ∧ (1 ≤ ix ∧ ix ≤ 1000000) ∧ (rans d).2 = true ∧ tm = 0 ∧ it = 0 ∧ cm = 0 ∧ y = false ∧ e = [])
open Classical in
noncomputable def msgB (k fr to tm ix it cm : Int) (y : Bool) (e : List EV) (d : ByteArray) : Bool := decide (msgP k fr to tm ix it cm y e d)
open Classical in
theorem msgB_iff (k fr to tm ix it cm : Int) (y : Bool) (e : List EV) (d : ByteArray) : msgB k fr to tm ix it cm y e d = true ↔ msgP k fr to tm ix it cm y e d := by unfold msgB; exact decide_eq_true_iff
theorem len0 {e : List EV} : ((e.length : Int) = 0) = (e = []) := by
  rw [← List.length_eq_zero_iff]; apply propext; omega

theorem g15 (k fr to tm ix it cm : Int) (y : Bool) (e : List EV) (d : ByteArray) (hyp : ((-9223372036854775808 ≤ fr ∧ fr ≤ 9223372036854775807) ∧ (-9223372036854775808 ≤ to ∧ to ≤ 9223372036854775807)) ∧ (e.length ≤ 1048576 ∧ d.size ≤ 1152921504606846976) ∧ (∀ p ∈ e, p.2.size ≤ 9223372036854775807)) : Good Try.prog 15 [⟨.agg, [.int .i64 k, .int .i64 fr, .int .i64 to, .int .i64 tm, .int .i64 ix, .int .i64 it, .int .i64 cm, .bool y, .ro 2 (rowsE e), .str d]⟩] [] (⟨.one, [.bool (msgB k fr to tm ix it cm y e d)]⟩) [⟨.agg, [.int .i64 k, .int .i64 fr, .int .i64 to, .int .i64 tm, .int .i64 ix, .int .i64 it, .int .i64 cm, .bool y, .ro 2 (rowsE e), .str d]⟩] [] := by
  refine Good_of (E := envOf [(43, c43), (44, c44), (45, c45), (46, c46), (47, c47), (32, c32), (48, c48), (51, c51), (49, c49), (50, c50)]) (envOk_of ⟨ctr43, ⟨ctr44, ⟨ctr45, ⟨ctr46, ⟨ctr47, ⟨ctr32, ⟨ctr48, ⟨ctr51, ⟨ctr49, ⟨ctr50, trivial⟩⟩⟩⟩⟩⟩⟩⟩⟩⟩) Try.func15 m15 rfl ?_
  have hT := c47_eq (k := k) (fr := fr) (to := to) (tm := tm) (ix := ix) (it := it) (cm := cm) (y := y) (e := e) (d := d) ⟨hyp.2.1.1, hyp.2.2⟩
  simp (maxSteps := 1000000) (disch := omega) only [go_sem, wI, wB, x15, r15_0, r15_1, r15_2, r15_3, r15_4, r15_5, r15_6, r15_7, r15_8, r15_9, r15_10, r15_11, r15_12, r15_13, r15_14, r15_15, r15_16, r15_17, r15_18, r15_19, Root.isRef, Int.toNat_natCast, natS1, natS2, rowsE_at, rowsE_get, rowsE_length, Nat.mul_one, Nat.div_one, Nat.mod_one, hT, c46_nil hyp.2.1.1, c49_eq, c48_eq, c51_eq]
  repeat' (first | ((with_reducible apply scEnd_of); exact rfl; exact rfl) | ((with_reducible apply ScW_of); rfl; rfl; trivial; (intro h; try simp only [HS] at h)) | ((with_reducible apply Br_of) <;> (intro h; (try simp only [h]); (try simp only [HS] at h))) | ((with_reducible first | refine Opt_put_if ?_ ?_ | refine Opt_if ?_ ?_ | refine Opt_bind_if ?_ ?_ | refine Opt_ifb ?_ ?_); (· (first | omega | (refine ⟨?_, ?_⟩ <;> omega) | (refine ⟨?_, ?_, ?_⟩ <;> omega) | (refine ⟨rfl, ?_⟩; simp only [okBig, Bool.and_eq_true, decide_eq_true_eq]; omega) | (refine Nat.le_trans (Nat.add_le_add_left (varS_le _) _) ?_; simp only [size_strOfNums, List.length_cons, List.length_nil, rowsE_length, ByteArray.size_append]; omega) | (refine ⟨rfl, ?_⟩; simp only [okBig, Bool.and_eq_true, decide_eq_true_eq, size_strOfNums, List.length_cons, List.length_nil, rowsE_length, ByteArray.size_append]; omega) | (simp only [size_strOfNums, List.length_cons, List.length_nil, rowsE_length, ByteArray.size_append]; omega)))) | ((with_reducible refine Opt_bind_ifn ?_ ?_); (· omega)) | simp (maxSteps := 1000000) (disch := omega) only [go_sem, wI, wB, Root.isRef, Int.toNat_natCast, natS1, natS2, rowsE_at, rowsE_get, rowsE_length, Nat.mul_one, Nat.div_one, Nat.mod_one, hT, c46_nil hyp.2.1.1, c49_eq, c48_eq, c51_eq])
  all_goals (simp only [Prod.mk.injEq, SV.mk.injEq, List.cons.injEq, Cell.bool.injEq, and_true, true_and]; rw [Bool.eq_iff_iff, msgB_iff]; simp only [msgP, srvP, placeP, eq_comm (a := (⟨#[]⟩ : ByteArray)), eq_comm (a := (0 : Int)), Bool.and_eq_true, Bool.or_eq_true, decide_eq_true_eq, List.length_nil, Int.natCast_zero, len0, Bool.not_eq_true', beq_iff_eq, decide_eq_false_iff_not, and_true, ne_eq]; (try subst h); simp only [*, Int.reduceEq, false_and, or_false, false_or, true_and, and_assoc]; try grind)
noncomputable def c15 : List SV → Refs → Option (SV × List SV × Refs) := ctrOf (α := Int × Int × Int × Int × Int × Int × Int × Bool × (List EV) × ByteArray) (fun ⟨k, fr, to, tm, ix, it, cm, y, e, d⟩ => ((-9223372036854775808 ≤ fr ∧ fr ≤ 9223372036854775807) ∧ (-9223372036854775808 ≤ to ∧ to ≤ 9223372036854775807)) ∧ (e.length ≤ 1048576 ∧ d.size ≤ 1152921504606846976) ∧ (∀ p ∈ e, p.2.size ≤ 9223372036854775807)) (fun ⟨k, fr, to, tm, ix, it, cm, y, e, d⟩ => [⟨.agg, [.int .i64 k, .int .i64 fr, .int .i64 to, .int .i64 tm, .int .i64 ix, .int .i64 it, .int .i64 cm, .bool y, .ro 2 (rowsE e), .str d]⟩]) (fun ⟨k, fr, to, tm, ix, it, cm, y, e, d⟩ => []) (fun ⟨k, fr, to, tm, ix, it, cm, y, e, d⟩ => ⟨.one, [.bool (msgB k fr to tm ix it cm y e d)]⟩) (fun ⟨k, fr, to, tm, ix, it, cm, y, e, d⟩ => [⟨.agg, [.int .i64 k, .int .i64 fr, .int .i64 to, .int .i64 tm, .int .i64 ix, .int .i64 it, .int .i64 cm, .bool y, .ro 2 (rowsE e), .str d]⟩]) (fun ⟨k, fr, to, tm, ix, it, cm, y, e, d⟩ => [])
theorem ctr15 : Ctr Try.prog 15 c15 := ctrOf_ok k15 (fun ⟨k, fr, to, tm, ix, it, cm, y, e, d⟩ hyp => g15 _ _ _ _ _ _ _ _ _ _ hyp)
theorem c15_eq {k fr to tm ix it cm : Int} {y : Bool} {e : List EV} {d : ByteArray} (hyp : ((-9223372036854775808 ≤ fr ∧ fr ≤ 9223372036854775807) ∧ (-9223372036854775808 ≤ to ∧ to ≤ 9223372036854775807)) ∧ (e.length ≤ 1048576 ∧ d.size ≤ 1152921504606846976) ∧ (∀ p ∈ e, p.2.size ≤ 9223372036854775807)) : c15 [⟨.agg, [.int .i64 k, .int .i64 fr, .int .i64 to, .int .i64 tm, .int .i64 ix, .int .i64 it, .int .i64 cm, .bool y, .ro 2 (rowsE e), .str d]⟩] [] = some (⟨.one, [.bool (msgB k fr to tm ix it cm y e d)]⟩, [⟨.agg, [.int .i64 k, .int .i64 fr, .int .i64 to, .int .i64 tm, .int .i64 ix, .int .i64 it, .int .i64 cm, .bool y, .ro 2 (rowsE e), .str d]⟩], []) := ctrOf_eq (α := Int × Int × Int × Int × Int × Int × Int × Bool × (List EV) × ByteArray) (x := (k, fr, to, tm, ix, it, cm, y, e, d)) (by intro x y h1 h2; simp at h1 h2; first | exact h1 | (simp_all; done) | (ext <;> simp_all)) hyp

end Go.Eng

namespace Go.Eng
open Go Go.Proofs

def ownC (st : St) (r : Root) : Cell → Option St
  | .al p => match moveOut st p with
    | some (sz, rows, st') => some (setRoot st' r (.own sz rows))
    | none => none
  | _ => some st
def ownD (r : Root) : Option (Nat × List (List D) × St) → Option St
  | some (sz, rows, st') => some (setRoot st' r (.own sz rows))
  | none => none
def moveC (st : St) (s c : Nat) : Cell → Option (Nat × List (List D) × St)
  | .own sz rows => some (sz, rows, setRoot (st.filt (hitN (.slot s c) 0)) (.slot s c) .undef)
  | _ => none
theorem ownize_c (st : St) (r : Root) : ownize st r = ownC st r (rootCell st r) := by unfold ownize ownC; rfl
theorem ownC_al (st : St) (r : Root) (p : Pl) : ownC st r (.al p) = ownD r (moveOut st p) := rfl
theorem ownD_some (r : Root) (sz : Nat) (rows : List (List D)) (st : St) : ownD r (some (sz, rows, st)) = some (setRoot st r (.own sz rows)) := rfl
theorem moveOut_slot (st : St) (s c : Nat) : moveOut st ⟨.slot s c, []⟩ = moveC st s c ((look st.sl s).get c) := by
  unfold moveOut moveC
  rfl
theorem moveC_own (st : St) (s c sz : Nat) (rows : List (List D)) : moveC st s c (.own sz rows) = some (sz, rows, setRoot (st.filt (hitN (.slot s c) 0)) (.slot s c) .undef) := rfl
theorem rootCell_slot (st : St) (s c : Nat) : rootCell st (.slot s c) = (look st.sl s).get c := rfl
theorem rootCell_ref (st : St) (s c : Nat) : rootCell st (.ref s c) = (match lookR st.rf s with | some cs => (cs[c]?).getD .undef | none => .undef) := rfl
theorem setRoot_slot (st : St) (s c : Nat) (x : Cell) : setRoot st (.slot s c) x = { st with sl := updS st.sl s (SV.set c x) } := rfl
theorem setRoot_ref (st : St) (s c : Nat) (x : Cell) : setRoot st (.ref s c) x = { st with rf := updR st.rf s (·.set c x) } := rfl

theorem c41_nil {k fr to tm ix it cm : Int} {y : Bool} {e : List EV} {d : ByteArray} {k2 fr2 to2 tm2 ix2 it2 cm2 : Int} {y2 : Bool} {d2 : ByteArray} (hyp : e.length ≤ 1048576) : c41 [⟨.agg, [.int .i64 k, .int .i64 fr, .int .i64 to, .int .i64 tm, .int .i64 ix, .int .i64 it, .int .i64 cm, .bool y, .ro 2 (rowsE e), .str d]⟩, ⟨.agg, [.int .i64 k2, .int .i64 fr2, .int .i64 to2, .int .i64 tm2, .int .i64 ix2, .int .i64 it2, .int .i64 cm2, .bool y2, .ro 2 ([]), .str d2]⟩] [] = some (⟨.one, [.bool (decide (k = k2) && decide (fr = fr2) && decide (to = to2) && decide (tm = tm2) && decide (ix = ix2) && decide (it = it2) && decide (cm = cm2) && decide (y = y2) && decide (d = d2) && eqE e [])]⟩, [⟨.agg, [.int .i64 k, .int .i64 fr, .int .i64 to, .int .i64 tm, .int .i64 ix, .int .i64 it, .int .i64 cm, .bool y, .ro 2 (rowsE e), .str d]⟩, ⟨.agg, [.int .i64 k2, .int .i64 fr2, .int .i64 to2, .int .i64 tm2, .int .i64 ix2, .int .i64 it2, .int .i64 cm2, .bool y2, .ro 2 ([]), .str d2]⟩], []) := c41_eq (e2 := []) hyp

theorem g13 (k fr to tm ix it cm : Int) (y : Bool) (e : List EV) (d : ByteArray) (hyp : ((-9223372036854775808 ≤ fr ∧ fr ≤ 9223372036854775807) ∧ (-9223372036854775808 ≤ to ∧ to ≤ 9223372036854775807)) ∧ (e.length ≤ 1048576 ∧ d.size ≤ 1152921504606846976) ∧ (∀ p ∈ e, p.2.size ≤ 9223372036854775807)) : Good Try.prog 13 [⟨.agg, [.int .i64 k, .int .i64 fr, .int .i64 to, .int .i64 tm, .int .i64 ix, .int .i64 it, .int .i64 cm, .bool y, .ro 2 (rowsE e), .str d]⟩] [] (⟨.one, [.bool (msgB k fr to tm ix it cm y e d)]⟩) [⟨.agg, [.int .i64 k, .int .i64 fr, .int .i64 to, .int .i64 tm, .int .i64 ix, .int .i64 it, .int .i64 cm, .bool y, .ro 2 (rowsE e), .str d]⟩] [] := by
  refine Good_of (E := envOf [(34, c34), (35, c35), (36, c36), (37, c37), (38, c38), (41, c41), (39, c39), (40, c40)]) (envOk_of ⟨ctr34, ⟨ctr35, ⟨ctr36, ⟨ctr37, ⟨ctr38, ⟨ctr41, ⟨ctr39, ⟨ctr40, trivial⟩⟩⟩⟩⟩⟩⟩⟩) Try.func13 m13 rfl ?_
  have hT := fun (lo hi : Int) => c38_eq (l := e) (lo := lo) (hi := hi) ⟨hyp.2.1.1, hyp.2.2⟩
  have hS := fun (k2 fr2 to2 tm2 ix2 it2 cm2 : Int) (y2 : Bool) (d2 : ByteArray) => c41_nil (k := k) (fr := fr) (to := to) (tm := tm) (ix := ix) (it := it) (cm := cm) (y := y) (e := e) (d := d) (k2 := k2) (fr2 := fr2) (to2 := to2) (tm2 := tm2) (ix2 := ix2) (it2 := it2) (cm2 := cm2) (y2 := y2) (d2 := d2) hyp.2.1.1
  have hR := fun (k2 fr2 to2 tm2 ix2 it2 cm2 : Int) (y2 : Bool) (d2 : ByteArray) => c41_eq (k := k) (fr := fr) (to := to) (tm := tm) (ix := ix) (it := it) (cm := cm) (y := y) (e := e) (d := d) (k2 := k2) (fr2 := fr2) (to2 := to2) (tm2 := tm2) (ix2 := ix2) (it2 := it2) (cm2 := cm2) (y2 := y2) (e2 := e) (d2 := d2) hyp.2.1.1
  simp (maxSteps := 1000000) (disch := omega) only [go_sem, wI, wB, x13, r13_0, r13_1, r13_2, r13_3, r13_4, r13_5, r13_6, r13_7, r13_8, r13_9, r13_10, r13_11, r13_12, r13_13, r13_14, r13_15, r13_16, r13_17, r13_18, r13_19, r13_20, r13_21, r13_22, r13_23, r13_24, r13_25, r13_26, r13_27, r13_28, r13_29, r13_30, r13_31, r13_32, r13_33, r13_34, r13_35, r13_36, r13_37, r13_38, Root.isRef, Int.toNat_natCast, natS1, natS2, rowsE_at, rowsE_get, rowsE_length, Nat.mul_one, Nat.div_one, Nat.mod_one, hitG, Root.inRng, ↓ownize_c, ownC_al, ownD_some, ↓moveOut_slot, moveC_own, ↓rootCell_slot, ↓rootCell_ref, ↓setRoot_slot, ↓setRoot_ref, hT, hS, hR, c39_eq, c40_eq]
  repeat' (first | ((with_reducible apply scEnd_of); exact rfl; exact rfl) | ((with_reducible apply ScW_of); rfl; rfl; trivial; (intro h; try simp only [HS] at h)) | ((with_reducible apply Br_of) <;> (intro h; (try simp only [h]); (try simp only [HS] at h))) | ((with_reducible first | refine Opt_put_if ?_ ?_ | refine Opt_if ?_ ?_ | refine Opt_bind_if ?_ ?_ | refine Opt_ifb ?_ ?_); (· (first | omega | (refine ⟨?_, ?_⟩ <;> omega) | (refine ⟨?_, ?_, ?_⟩ <;> omega) | (refine ⟨rfl, ?_⟩; simp only [okBig, Bool.and_eq_true, decide_eq_true_eq]; omega) | (refine Nat.le_trans (Nat.add_le_add_left (varS_le _) _) ?_; simp only [size_strOfNums, List.length_cons, List.length_nil, rowsE_length, ByteArray.size_append]; omega) | (refine ⟨rfl, ?_⟩; simp only [okBig, Bool.and_eq_true, decide_eq_true_eq, size_strOfNums, List.length_cons, List.length_nil, rowsE_length, ByteArray.size_append]; omega) | (simp only [size_strOfNums, List.length_cons, List.length_nil, rowsE_length, ByteArray.size_append]; omega)))) | ((with_reducible refine Opt_bind_ifn ?_ ?_); (· omega)) | simp (maxSteps := 1000000) (disch := omega) only [go_sem, wI, wB, Root.isRef, Int.toNat_natCast, natS1, natS2, rowsE_at, rowsE_get, rowsE_length, Nat.mul_one, Nat.div_one, Nat.mod_one, hitG, Root.inRng, ↓ownize_c, ownC_al, ownD_some, ↓moveOut_slot, moveC_own, ↓rootCell_slot, ↓rootCell_ref, ↓setRoot_slot, ↓setRoot_ref, hT, hS, hR, c39_eq, c40_eq])
  all_goals (try (exfalso; omega))
  all_goals (try exact true)
  all_goals (simp only [Prod.mk.injEq, SV.mk.injEq, List.cons.injEq, Cell.bool.injEq, and_true, true_and]; rw [Bool.eq_iff_iff, msgB_iff]; simp only [eqE, appB, placeB, msgP, srvP, placeP, eq_comm (a := (⟨#[]⟩ : ByteArray)), eq_comm (a := (0 : Int)), Bool.and_eq_true, Bool.or_eq_true, decide_eq_true_eq, List.length_nil, Int.natCast_zero, len0, Bool.not_eq_true', beq_iff_eq, decide_eq_false_iff_not, and_true, ne_eq]; (try subst h); simp only [*, Int.reduceEq, false_and, or_false, false_or, true_and, and_assoc]; try grind)
noncomputable def c13 : List SV → Refs → Option (SV × List SV × Refs) := ctrOf (α := Int × Int × Int × Int × Int × Int × Int × Bool × (List EV) × ByteArray) (fun ⟨k, fr, to, tm, ix, it, cm, y, e, d⟩ => ((-9223372036854775808 ≤ fr ∧ fr ≤ 9223372036854775807) ∧ (-9223372036854775808 ≤ to ∧ to ≤ 9223372036854775807)) ∧ (e.length ≤ 1048576 ∧ d.size ≤ 1152921504606846976) ∧ (∀ p ∈ e, p.2.size ≤ 9223372036854775807)) (fun ⟨k, fr, to, tm, ix, it, cm, y, e, d⟩ => [⟨.agg, [.int .i64 k, .int .i64 fr, .int .i64 to, .int .i64 tm, .int .i64 ix, .int .i64 it, .int .i64 cm, .bool y, .ro 2 (rowsE e), .str d]⟩]) (fun ⟨k, fr, to, tm, ix, it, cm, y, e, d⟩ => []) (fun ⟨k, fr, to, tm, ix, it, cm, y, e, d⟩ => ⟨.one, [.bool (msgB k fr to tm ix it cm y e d)]⟩) (fun ⟨k, fr, to, tm, ix, it, cm, y, e, d⟩ => [⟨.agg, [.int .i64 k, .int .i64 fr, .int .i64 to, .int .i64 tm, .int .i64 ix, .int .i64 it, .int .i64 cm, .bool y, .ro 2 (rowsE e), .str d]⟩]) (fun ⟨k, fr, to, tm, ix, it, cm, y, e, d⟩ => [])
theorem ctr13 : Ctr Try.prog 13 c13 := ctrOf_ok k13 (fun ⟨k, fr, to, tm, ix, it, cm, y, e, d⟩ hyp => g13 _ _ _ _ _ _ _ _ _ _ hyp)
theorem c13_eq {k fr to tm ix it cm : Int} {y : Bool} {e : List EV} {d : ByteArray} (hyp : ((-9223372036854775808 ≤ fr ∧ fr ≤ 9223372036854775807) ∧ (-9223372036854775808 ≤ to ∧ to ≤ 9223372036854775807)) ∧ (e.length ≤ 1048576 ∧ d.size ≤ 1152921504606846976) ∧ (∀ p ∈ e, p.2.size ≤ 9223372036854775807)) : c13 [⟨.agg, [.int .i64 k, .int .i64 fr, .int .i64 to, .int .i64 tm, .int .i64 ix, .int .i64 it, .int .i64 cm, .bool y, .ro 2 (rowsE e), .str d]⟩] [] = some (⟨.one, [.bool (msgB k fr to tm ix it cm y e d)]⟩, [⟨.agg, [.int .i64 k, .int .i64 fr, .int .i64 to, .int .i64 tm, .int .i64 ix, .int .i64 it, .int .i64 cm, .bool y, .ro 2 (rowsE e), .str d]⟩], []) := ctrOf_eq (α := Int × Int × Int × Int × Int × Int × Int × Bool × (List EV) × ByteArray) (x := (k, fr, to, tm, ix, it, cm, y, e, d)) (by intro x y h1 h2; simp at h1 h2; first | exact h1 | (simp_all; done) | (ext <;> simp_all)) hyp

end Go.Eng

namespace Go.Eng
open Go Go.Proofs

def szM (e : List EV) (d : ByteArray) (n : Int) : Int := if szES e n < 0 then -1 else if szES e n - d.size < 0 then -1 else szES e n - d.size

theorem g16 (k fr to tm ix it cm : Int) (y : Bool) (e : List EV) (d : ByteArray) (k2 fr2 to2 tm2 ix2 it2 cm2 : Int) (y2 : Bool) (e2 : List EV) (d2 : ByteArray) (hyp : e.length ≤ 1048576) : Good Try.prog 16 [⟨.agg, [.int .i64 k, .int .i64 fr, .int .i64 to, .int .i64 tm, .int .i64 ix, .int .i64 it, .int .i64 cm, .bool y, .ro 2 (rowsE e), .str d]⟩, ⟨.agg, [.int .i64 k2, .int .i64 fr2, .int .i64 to2, .int .i64 tm2, .int .i64 ix2, .int .i64 it2, .int .i64 cm2, .bool y2, .ro 2 (rowsE e2), .str d2]⟩] [] (⟨.one, [.bool (decide (k = k2) && decide (fr = fr2) && decide (to = to2) && decide (tm = tm2) && decide (ix = ix2) && decide (it = it2) && decide (cm = cm2) && decide (y = y2) && eqE e e2 && decide (d = d2))]⟩) [⟨.agg, [.int .i64 k, .int .i64 fr, .int .i64 to, .int .i64 tm, .int .i64 ix, .int .i64 it, .int .i64 cm, .bool y, .ro 2 (rowsE e), .str d]⟩, ⟨.agg, [.int .i64 k2, .int .i64 fr2, .int .i64 to2, .int .i64 tm2, .int .i64 ix2, .int .i64 it2, .int .i64 cm2, .bool y2, .ro 2 (rowsE e2), .str d2]⟩] [] := by
  refine Good_of (E := envOf [(52, c52)]) (envOk_of ⟨ctr52, trivial⟩) Try.func16 m16 rfl ?_
  simp (maxSteps := 1000000) (disch := omega) only [go_sem, wI, wB, x16, r16_0, r16_1, r16_2, r16_3, r16_4, r16_5, r16_6, r16_7, r16_8, r16_9, r16_10, r16_11, r16_12, r16_13, r16_14, r16_15, r16_16, r16_17, r16_18, r16_19, r16_20, r16_21, Root.isRef, Int.toNat_natCast, natS1, natS2, rowsE_at, rowsE_get, rowsE_length, Nat.mul_one, Nat.div_one, Nat.mod_one, hitG, Root.inRng, ↓ownize_c, ownC_al, ownD_some, ↓moveOut_slot, moveC_own, ↓rootCell_slot, ↓rootCell_ref, ↓setRoot_slot, ↓setRoot_ref, c52_eq]
  repeat' (first | ((with_reducible apply scEnd_of); exact rfl; exact rfl) | ((with_reducible apply ScW_of); rfl; rfl; trivial; (intro h; try simp only [HS] at h)) | ((with_reducible apply Br_of) <;> (intro h; (try simp only [h]); (try simp only [HS] at h))) | ((with_reducible first | refine Opt_put_if ?_ ?_ | refine Opt_if ?_ ?_ | refine Opt_bind_if ?_ ?_ | refine Opt_ifb ?_ ?_); (· (first | omega | (refine ⟨?_, ?_⟩ <;> omega) | (refine ⟨?_, ?_, ?_⟩ <;> omega) | (refine ⟨rfl, ?_⟩; simp only [okBig, Bool.and_eq_true, decide_eq_true_eq]; omega) | (refine Nat.le_trans (Nat.add_le_add_left (varS_le _) _) ?_; simp only [size_strOfNums, List.length_cons, List.length_nil, rowsE_length, ByteArray.size_append]; omega) | (refine ⟨rfl, ?_⟩; simp only [okBig, Bool.and_eq_true, decide_eq_true_eq, size_strOfNums, List.length_cons, List.length_nil, rowsE_length, ByteArray.size_append]; omega) | (simp only [size_strOfNums, List.length_cons, List.length_nil, rowsE_length, ByteArray.size_append]; omega)))) | ((with_reducible refine Opt_bind_ifn ?_ ?_); (· omega)) | simp (maxSteps := 1000000) (disch := omega) only [go_sem, wI, wB, Root.isRef, Int.toNat_natCast, natS1, natS2, rowsE_at, rowsE_get, rowsE_length, Nat.mul_one, Nat.div_one, Nat.mod_one, hitG, Root.inRng, ↓ownize_c, ownC_al, ownD_some, ↓moveOut_slot, moveC_own, ↓rootCell_slot, ↓rootCell_ref, ↓setRoot_slot, ↓setRoot_ref, c52_eq])
  all_goals (simp only [Prod.mk.injEq, SV.mk.injEq, List.cons.injEq, Cell.bool.injEq, and_true, true_and]; rw [Bool.eq_iff_iff]; simp only [Bool.and_eq_true, decide_eq_true_eq]; grind)
noncomputable def c16 : List SV → Refs → Option (SV × List SV × Refs) := ctrOf (α := Int × Int × Int × Int × Int × Int × Int × Bool × (List EV) × ByteArray × Int × Int × Int × Int × Int × Int × Int × Bool × (List EV) × ByteArray) (fun ⟨k, fr, to, tm, ix, it, cm, y, e, d, k2, fr2, to2, tm2, ix2, it2, cm2, y2, e2, d2⟩ => e.length ≤ 1048576) (fun ⟨k, fr, to, tm, ix, it, cm, y, e, d, k2, fr2, to2, tm2, ix2, it2, cm2, y2, e2, d2⟩ => [⟨.agg, [.int .i64 k, .int .i64 fr, .int .i64 to, .int .i64 tm, .int .i64 ix, .int .i64 it, .int .i64 cm, .bool y, .ro 2 (rowsE e), .str d]⟩, ⟨.agg, [.int .i64 k2, .int .i64 fr2, .int .i64 to2, .int .i64 tm2, .int .i64 ix2, .int .i64 it2, .int .i64 cm2, .bool y2, .ro 2 (rowsE e2), .str d2]⟩]) (fun ⟨k, fr, to, tm, ix, it, cm, y, e, d, k2, fr2, to2, tm2, ix2, it2, cm2, y2, e2, d2⟩ => []) (fun ⟨k, fr, to, tm, ix, it, cm, y, e, d, k2, fr2, to2, tm2, ix2, it2, cm2, y2, e2, d2⟩ => ⟨.one, [.bool (decide (k = k2) && decide (fr = fr2) && decide (to = to2) && decide (tm = tm2) && decide (ix = ix2) && decide (it = it2) && decide (cm = cm2) && decide (y = y2) && eqE e e2 && decide (d = d2))]⟩) (fun ⟨k, fr, to, tm, ix, it, cm, y, e, d, k2, fr2, to2, tm2, ix2, it2, cm2, y2, e2, d2⟩ => [⟨.agg, [.int .i64 k, .int .i64 fr, .int .i64 to, .int .i64 tm, .int .i64 ix, .int .i64 it, .int .i64 cm, .bool y, .ro 2 (rowsE e), .str d]⟩, ⟨.agg, [.int .i64 k2, .int .i64 fr2, .int .i64 to2, .int .i64 tm2, .int .i64 ix2, .int .i64 it2, .int .i64 cm2, .bool y2, .ro 2 (rowsE e2), .str d2]⟩]) (fun ⟨k, fr, to, tm, ix, it, cm, y, e, d, k2, fr2, to2, tm2, ix2, it2, cm2, y2, e2, d2⟩ => [])
theorem ctr16 : Ctr Try.prog 16 c16 := ctrOf_ok k16 (fun ⟨k, fr, to, tm, ix, it, cm, y, e, d, k2, fr2, to2, tm2, ix2, it2, cm2, y2, e2, d2⟩ hyp => g16 _ _ _ _ _ _ _ _ _ _ _ _ _ _ _ _ _ _ _ _ hyp)
theorem c16_eq {k fr to tm ix it cm : Int} {y : Bool} {e : List EV} {d : ByteArray} {k2 fr2 to2 tm2 ix2 it2 cm2 : Int} {y2 : Bool} {e2 : List EV} {d2 : ByteArray} (hyp : e.length ≤ 1048576) : c16 [⟨.agg, [.int .i64 k, .int .i64 fr, .int .i64 to, .int .i64 tm, .int .i64 ix, .int .i64 it, .int .i64 cm, .bool y, .ro 2 (rowsE e), .str d]⟩, ⟨.agg, [.int .i64 k2, .int .i64 fr2, .int .i64 to2, .int .i64 tm2, .int .i64 ix2, .int .i64 it2, .int .i64 cm2, .bool y2, .ro 2 (rowsE e2), .str d2]⟩] [] = some (⟨.one, [.bool (decide (k = k2) && decide (fr = fr2) && decide (to = to2) && decide (tm = tm2) && decide (ix = ix2) && decide (it = it2) && decide (cm = cm2) && decide (y = y2) && eqE e e2 && decide (d = d2))]⟩, [⟨.agg, [.int .i64 k, .int .i64 fr, .int .i64 to, .int .i64 tm, .int .i64 ix, .int .i64 it, .int .i64 cm, .bool y, .ro 2 (rowsE e), .str d]⟩, ⟨.agg, [.int .i64 k2, .int .i64 fr2, .int .i64 to2, .int .i64 tm2, .int .i64 ix2, .int .i64 it2, .int .i64 cm2, .bool y2, .ro 2 (rowsE e2), .str d2]⟩], []) := ctrOf_eq (α := Int × Int × Int × Int × Int × Int × Int × Bool × (List EV) × ByteArray × Int × Int × Int × Int × Int × Int × Int × Bool × (List EV) × ByteArray) (x := (k, fr, to, tm, ix, it, cm, y, e, d, k2, fr2, to2, tm2, ix2, it2, cm2, y2, e2, d2)) (by intro x y h1 h2; simp at h1 h2; first | exact h1 | (simp_all; done) | (ext <;> simp_all)) hyp

theorem szM_rng {e : List EV} {d : ByteArray} {n : Int} (h : 0 ≤ n) : 0 ≤ szM e d n → (e.length : Int) ≤ n ∧ (d.size : Int) ≤ n := by
  have hr := szES_rng (l := e) h
  unfold szM
  intro h2
  split at h2
  · omega
  · split at h2
    · omega
    · have := hr.2 (by omega); exact ⟨this.1, by omega⟩

end Go.Eng
