/-
  Contracts of functions of the program, its reference and the laws: what each returns; the conditions stand in each contract.
-/
import Derived.Test.YtlpapgmbknkmaaaGreatFnA
set_option linter.unusedSimpArgs false
set_option linter.unusedVariables false
set_option maxRecDepth 100000
set_option maxHeartbeats 2000000
namespace Go.Eng
open Go Go.Proofs
theorem tailT_eq (s : ByteArray) : rtimes ((unfS s).1.extract (rv (unfS s).1).2.toNat (unfS s).1.size) (rv (unfS s).1).1 = tailT s := rfl
theorem tailV_eq (s : ByteArray) : rvalues ((unfS s).1.extract ((rv (unfS s).1).2 + (tailT s).2).toNat (unfS s).1.size) (rv (unfS s).1).1 = tailV s := rfl
theorem tailT_rng (s : ByteArray) : 0 ≤ (tailT s).2 ∧ (rv (unfS s).1).2 + (tailT s).2 ≤ (unfS s).1.size ∧ (tailT s).1.length ≤ 60 := by
  have h1 := rv_rng (unfS s).1
  have h2 := rtimes_rng ((unfS s).1.extract (rv (unfS s).1).2.toNat (unfS s).1.size) (rv (unfS s).1).1
  rw [tailT_eq] at h2
  have h3 : ((unfS s).1.extract (rv (unfS s).1).2.toNat (unfS s).1.size).size = (unfS s).1.size - (rv (unfS s).1).2.toNat := by
    rw [← bytes_length, bytes_tail, List.length_drop, bytes_length]
  omega
theorem tailV_rng (s : ByteArray) : 0 ≤ (tailV s).2 ∧ (tailV s).2 ≤ (unfS s).1.size ∧ (tailV s).1.length ≤ 60 := by
  have h2 := rvalues_rng ((unfS s).1.extract ((rv (unfS s).1).2 + (tailT s).2).toNat (unfS s).1.size) (rv (unfS s).1).1
  rw [tailV_eq] at h2
  have := extract_le (unfS s).1 ((rv (unfS s).1).2 + (tailT s).2).toNat (unfS s).1.size
  omega
theorem tailT_len {s : ByteArray} (h : (tailT s).2 ≠ 0) : ((tailT s).1.length : Int) = (rv (unfS s).1).1 ∧ (rv (unfS s).1).1 ≤ 60 := by
  rcases rtimes_cases ((unfS s).1.extract (rv (unfS s).1).2.toNat (unfS s).1.size) (rv (unfS s).1).1 with ⟨l, h1, h2⟩ | ⟨_, h2⟩
  · rw [tailT_eq] at h2
    rw [h2]
    have := h1.1.2
    have := h1.2.1
    simp only; omega
  · rw [tailT_eq] at h2
    rw [h2] at h; exact absurd rfl h
theorem tailV_len {s : ByteArray} (h : (tailV s).2 ≠ 0) : ((tailV s).1.length : Int) = (rv (unfS s).1).1 := by
  rcases rvalues_cases ((unfS s).1.extract ((rv (unfS s).1).2 + (tailT s).2).toNat (unfS s).1.size) (rv (unfS s).1).1 with ⟨l, h1, h2⟩ | ⟨_, h2⟩
  · rw [tailV_eq] at h2
    rw [h2]
    exact h1.2.1
  · rw [tailV_eq] at h2
    rw [h2] at h; exact absurd rfl h
theorem zip_snoc {a b : List Int} {i : Nat} (h1 : i < a.length) (h2 : i < b.length) : (a.zip b).take i ++ [(a.getD i 0, b.getD i 0)] = (a.zip b).take (i + 1) := by
  have h3 : i < (a.zip b).length := by rw [List.length_zip]; omega
  rw [List.take_succ_eq_append_getElem h3, List.getElem_zip]
  simp [List.getD, h1, h2]
theorem rblock_len (s : ByteArray) : (rblock s).1.length ≤ 60 := by
  rcases rblock_cases s with ⟨l, h, e⟩ | ⟨_, e⟩
  · rw [e]; exact h.1.2.2
  · rw [e]; simp
attribute [push_cast] rowsI_length rowsP_length List.length_take List.length_map List.length_zip
instance g54 (s : ByteArray) : Fs 54 [st1 s] True (⟨.tup [(false, 1), (false, 1)], [.own 2 (rowsP (rblock s).1), .bool (rblock s).2]⟩) := by
  refine F_of m54 rfl fun hyp => ?_
  have r1 := rv_rng (unfS s).1
  have r2 := tailT_rng s
  have r3 := tailV_rng s
  have r4 := unf_size s
  simp (maxSteps := 1000000) (disch := omega) only [go_sem, tailT_eq, tailV_eq]
  repeat' (first | (with_reducible intro h; (try simp only [h]); (try simp only [HS] at h)) | ((with_reducible apply scEnd_of); exact rfl; exact rfl) | ((with_reducible apply ScW_of); rfl; rfl; trivial) | with_reducible first | apply Br_of | refine O1 ?_ | refine O2 ?_ | refine O3 ?_ | refine O4 ?_ | refine O5 ?_ | refine CI ?_ | refine CJ ?_ | refine CQp ?_ | refine CQ ?_ | simp (maxSteps := 1000000) (disch := omega) only [go_sem, tailT_eq, tailV_eq])
  all_goals (try (exfalso; omega))
  · rw [← blockI_eq, blockI, rblockI, if_pos h]; rfl
  · rw [← blockI_eq, blockI, rblockI, if_neg (by omega), if_pos h]; rfl
  · refine LoopK_of (α := Nat) (fun p => ⟨[(64, i64 p), (63, i64 (tailT s).1.length), (62, ⟨.one, [.al ⟨.slot 9 0, []⟩]⟩), (13, ⟨.one, [.own 2 (rowsP (((tailT s).1.zip (tailV s).1).take p))]⟩), (11, ⟨.one, [.own 1 (rowsI (tailV s).1)]⟩), (9, ⟨.one, [.own 1 (rowsI (tailT s).1)]⟩), (0, st1 s)], [], [(0, st1 s)]⟩) (fun p => p ≤ (tailT s).1.length) (fun p => (tailT s).1.length - p) 0 rfl (Nat.zero_le _) ?_
    intro i hi
    by_cases hl : i < (tailT s).1.length
    · simp (maxSteps := 1000000) (disch := omega) only [go_sem, tailT_eq, tailV_eq]
      repeat' (first | (with_reducible intro h; (try simp only [h]); (try simp only [HS] at h)) | ((with_reducible apply scEnd_of); exact rfl; exact rfl) | ((with_reducible apply ScW_of); rfl; rfl; trivial) | with_reducible first | apply Br_of | refine O1 ?_ | refine O2 ?_ | refine O3 ?_ | refine O4 ?_ | refine O5 ?_ | refine CI ?_ | refine CJ ?_ | refine CQp ?_ | refine CQ ?_ | simp (maxSteps := 1000000) (disch := omega) only [go_sem, tailT_eq, tailV_eq])
      all_goals (try (exfalso; omega))
      · rw [zip_snoc (by omega) (by omega)]
        exact LoopQ_of (i + 1) rfl (by omega) (by omega)
    · have e : i = (tailT s).1.length := by omega
      subst e
      rw [List.take_of_length_le (by rw [List.length_zip]; omega)]
      have z1 : ((tailT s).1.zip (tailV s).1).length ≤ 1000000 := by rw [List.length_zip]; omega
      simp (maxSteps := 1000000) (disch := omega) only [go_sem, tailT_eq, tailV_eq]
      repeat' (first | (with_reducible intro h; (try simp only [h]); (try simp only [HS] at h)) | ((with_reducible apply scEnd_of); exact rfl; exact rfl) | ((with_reducible apply ScW_of); rfl; rfl; trivial) | with_reducible first | apply Br_of | refine O1 ?_ | refine O2 ?_ | refine O3 ?_ | refine O4 ?_ | refine O5 ?_ | refine CI ?_ | refine CJ ?_ | refine CQp ?_ | refine CQ ?_ | simp (maxSteps := 1000000) (disch := omega) only [go_sem, tailT_eq, tailV_eq])
      all_goals (try (exfalso; omega))
      · rw [← blockI_eq, blockI, rblockI, if_neg (by omega), if_neg (by omega), if_neg h]; rfl
      · rw [← blockI_eq, blockI, rblockI, if_neg (by omega), if_neg (by omega), if_pos h]
instance g49 (s : ByteArray) : Fs 49 [st1 s] True (⟨.tup [(false, 1), (false, 1)], [.own 2 (rowsP (rblock s).1), .bool (rblock s).2]⟩) := by
  refine F_of m49 rfl fun hyp => ?_
  have r1 := rv_rng (unfS s).1
  have r2 := tailT_rng s
  have r3 := tailV_rng s
  have r4 := unf_size s
  have r5 := extract_le (unfS s).1 (rv (unfS s).1).2.toNat (unfS s).1.size
  have r6 := extract_le (unfS s).1 ((rv (unfS s).1).2 + (tailT s).2).toNat (unfS s).1.size
  simp (maxSteps := 1000000) (disch := omega) only [go_sem, tailT_eq, tailV_eq]
  repeat' (first | (with_reducible intro h; (try simp only [h]); (try simp only [HS] at h)) | ((with_reducible apply scEnd_of); exact rfl; exact rfl) | ((with_reducible apply ScW_of); rfl; rfl; trivial) | with_reducible first | apply Br_of | refine O1 ?_ | refine O2 ?_ | refine O3 ?_ | refine O4 ?_ | refine O5 ?_ | refine CI ?_ | refine CJ ?_ | refine CQp ?_ | refine CQ ?_ | simp (maxSteps := 1000000) (disch := omega) only [go_sem, tailT_eq, tailV_eq])
  all_goals (try (exfalso; omega))
  · rw [← blockSp_eq, blockSp, if_pos h]; rfl
  · rw [← blockSp_eq, blockSp, if_neg (by omega), if_pos h]; rfl
  · rw [← blockSp_eq, blockSp, if_neg (by omega), if_neg (by omega), if_pos h]; rfl
  · have hT := tailT_len (s := s) (by omega)
    have hV := tailV_len (s := s) (by omega)
    refine LoopK_of (α := Nat) (fun p => ⟨[(15, i64 p), (14, ⟨.one, [.own 2 (rowsP (((tailT s).1.zip (tailV s).1).take p))]⟩), (12, ⟨.one, [.own 1 (rowsI (tailV s).1)]⟩), (10, ⟨.one, [.own 1 (rowsI (tailT s).1)]⟩), (8, i64 (rv (unfS s).1).1)], [], [(0, st1 s)]⟩) (fun p => p ≤ (tailT s).1.length) (fun p => (tailT s).1.length - p) 0 rfl (Nat.zero_le _) ?_
    intro i hi
    by_cases hl : i < (tailT s).1.length
    · simp (maxSteps := 1000000) (disch := omega) only [go_sem, tailT_eq, tailV_eq]
      repeat' (first | (with_reducible intro h; (try simp only [h]); (try simp only [HS] at h)) | ((with_reducible apply scEnd_of); exact rfl; exact rfl) | ((with_reducible apply ScW_of); rfl; rfl; trivial) | with_reducible first | apply Br_of | refine O1 ?_ | refine O2 ?_ | refine O3 ?_ | refine O4 ?_ | refine O5 ?_ | refine CI ?_ | refine CJ ?_ | refine CQp ?_ | refine CQ ?_ | simp (maxSteps := 1000000) (disch := omega) only [go_sem, tailT_eq, tailV_eq])
      all_goals (try (exfalso; omega))
      · rw [zip_snoc (by omega) (by omega)]
        exact LoopQ_of (i + 1) rfl (by omega) (by omega)
    · have e : i = (tailT s).1.length := by omega
      subst e
      rw [List.take_of_length_le (by rw [List.length_zip]; omega)]
      simp (maxSteps := 1000000) (disch := omega) only [go_sem, tailT_eq, tailV_eq]
      repeat' (first | (with_reducible intro h; (try simp only [h]); (try simp only [HS] at h)) | ((with_reducible apply scEnd_of); exact rfl; exact rfl) | ((with_reducible apply ScW_of); rfl; rfl; trivial) | with_reducible first | apply Br_of | refine O1 ?_ | refine O2 ?_ | refine O3 ?_ | refine O4 ?_ | refine O5 ?_ | refine CI ?_ | refine CJ ?_ | refine CQp ?_ | refine CQ ?_ | simp (maxSteps := 1000000) (disch := omega) only [go_sem, tailT_eq, tailV_eq])
      all_goals (try (exfalso; omega))
      · rw [← blockSp_eq, blockSp, if_neg (by omega), if_neg (by omega), if_neg (by omega)]
def spanP (f t : Int) : Prop := 0 ≤ f ∧ f < t ∧ t ≤ 1099511627776
instance (f t : Int) : Decidable (spanP f t) := inferInstanceAs (Decidable (_ ∧ _))
def E0 : ByteArray := ⟨#[]⟩
open Classical in
noncomputable def opB (k : Int) (key : ByteArray) (f t : Int) (d : ByteArray) : Bool := decide (
  (k = 1 ∧ spanP f t ∧ key = ⟨#[]⟩ ∧ d = ⟨#[]⟩) ∨ ((k = 2 ∨ k = 6) ∧ (0 ≤ f ∧ f ≤ 1099511627776) ∧ key = ⟨#[]⟩ ∧ t = 0 ∧ d = ⟨#[]⟩) ∨ (k = 3 ∧ (0 ≤ f ∧ f ≤ 100000) ∧ key = ⟨#[]⟩ ∧ t = 0 ∧ d = ⟨#[]⟩) ∨
  (k = 4 ∧ (rblock d).2 = true ∧ keyB key = true ∧ f = 0 ∧ t = 0) ∨ (k = 5 ∧ keyB key = true ∧ spanP f t ∧ d = ⟨#[]⟩) ∨ (k = 7 ∧ key = ⟨#[]⟩ ∧ f = 0 ∧ t = 0 ∧ d = ⟨#[]⟩))
def ansB (c i m : Int) (d : ByteArray) : Bool := (decide (0 ≤ c) && decide (c ≤ 4)) && ((decide (0 ≤ i) && decide (i ≤ 100000)) && ((decide (0 ≤ m) && decide (m ≤ 1099511627776)) && decide ((d.size : Int) ≤ 900)))
instance g178 (k : Int) (key : ByteArray) (f t : Int) (d : ByteArray) : Fs 178 [⟨.agg, [.int .i64 k, .str key, .int .i64 f, .int .i64 t, .str d]⟩] True (bl (decide (0 ≤ f) && decide (f < t) && decide (t ≤ 1099511627776))) := by
  refine F_of m178 rfl fun hyp => ?_
  simp (maxSteps := 1000000) (disch := omega) only [go_sem]
  repeat' (first | (with_reducible intro h; (try simp only [h]); (try simp only [HS] at h)) | ((with_reducible apply scEnd_of); exact rfl; exact rfl) | ((with_reducible apply ScW_of); rfl; rfl; trivial) | with_reducible first | apply Br_of | refine O1 ?_ | refine O2 ?_ | refine O3 ?_ | refine O4 ?_ | refine O5 ?_ | refine CI ?_ | refine CJ ?_ | refine CQp ?_ | refine CQ ?_ | simp (maxSteps := 1000000) (disch := omega) only [go_sem])
  all_goals rfl
instance g99 (k : Int) (key : ByteArray) (f t : Int) (d : ByteArray) : Fs 99 [⟨.agg, [.int .i64 k, .str key, .int .i64 f, .int .i64 t, .str d]⟩] (key.size ≤ 9223372036854775807) (bl (opB k key f t d)) := by
  refine F_of m99 rfl fun hyp => ?_
  simp (maxSteps := 1000000) (disch := omega) only [go_sem]
  repeat' (first | (with_reducible intro h; (try simp only [h]); (try simp only [HS] at h)) | ((with_reducible apply scEnd_of); exact rfl; exact rfl) | ((with_reducible apply ScW_of); rfl; rfl; trivial) | with_reducible first | apply Br_of | refine O1 ?_ | refine O2 ?_ | refine O3 ?_ | refine O4 ?_ | refine O5 ?_ | refine CI ?_ | refine CJ ?_ | refine CQp ?_ | refine CQ ?_ | simp (maxSteps := 1000000) (disch := omega) only [go_sem])
  all_goals (simp only [Prod.mk.injEq, SV.mk.injEq, List.cons.injEq, Cell.bool.injEq, and_true, true_and, opB, eq_comm (a := (⟨#[]⟩ : ByteArray)), eq_comm (a := (0 : Int))]; rw [Bool.eq_iff_iff]; simp only [Bool.and_eq_true, decide_eq_true_eq, spanP]; grind)
instance g125 (k : Int) (key : ByteArray) (f t : Int) (d : ByteArray) : Fs 125 [⟨.agg, [.int .i64 k, .str key, .int .i64 f, .int .i64 t, .str d]⟩] True (bl (opB k key f t d)) := by
  refine F_of m125 rfl fun hyp => ?_
  simp (maxSteps := 1000000) (disch := omega) only [go_sem]
  repeat' (first | (with_reducible intro h; (try simp only [h]); (try simp only [HS] at h)) | ((with_reducible apply scEnd_of); exact rfl; exact rfl) | ((with_reducible apply ScW_of); rfl; rfl; trivial) | with_reducible first | apply Br_of | refine O1 ?_ | refine O2 ?_ | refine O3 ?_ | refine O4 ?_ | refine O5 ?_ | refine CI ?_ | refine CJ ?_ | refine CQp ?_ | refine CQ ?_ | simp (maxSteps := 1000000) (disch := omega) only [go_sem])
  all_goals (simp only [Prod.mk.injEq, SV.mk.injEq, List.cons.injEq, Cell.bool.injEq, and_true, true_and, opB, eq_comm (a := (⟨#[]⟩ : ByteArray)), eq_comm (a := (0 : Int))]; rw [Bool.eq_iff_iff]; simp only [Bool.and_eq_true, decide_eq_true_eq, spanP]; grind)
structure OpV where
  k : Int
  key : ByteArray
  f : Int
  t : Int
  d : ByteArray
  deriving DecidableEq
noncomputable def OpV.okB (o : OpV) : Bool := opB o.k o.key o.f o.t o.d
def OpV.zero : OpV := ⟨0, ⟨#[]⟩, 0, 0, ⟨#[]⟩⟩
def opT (o : OpV) : ByteArray := strOfNums [o.k] ++ varS o.key.size ++ o.key ++ varS o.f ++ varS o.t ++ o.d
noncomputable def opS (o : OpV) : ByteArray := if o.okB = true then opT o else ⟨#[]⟩
theorem keyB_size {s : ByteArray} (h : keyB s = true) : 1 ≤ s.size ∧ s.size ≤ 8 := by
  simp only [keyB, Bool.and_eq_true, decide_eq_true_eq] at h
  omega
theorem okB_rng {o : OpV} (h : o.okB = true) : (1 ≤ o.k ∧ o.k ≤ 7) ∧ o.key.size ≤ 8 ∧ (0 ≤ o.f ∧ o.f ≤ 1099511627776) ∧ (0 ≤ o.t ∧ o.t ≤ 1099511627776) := by
  unfold OpV.okB opB at h
  have h := of_decide_eq_true h
  simp only [spanP] at h
  have e : (⟨#[]⟩ : ByteArray).size = 0 := rfl
  rcases h with ⟨h1, h2, h3, h4⟩ | ⟨h1, h2, h3, h4, h5⟩ | ⟨h1, h2, h3, h4, h5⟩ | ⟨h1, h2, h3, h4, h5⟩ | ⟨h1, h2, h3, h4⟩ | ⟨h1, h2, h3, h4, h5⟩
  · rw [h3]; omega
  · rw [h3]; omega
  · rw [h3]; omega
  · have := keyB_size h3; omega
  · have := keyB_size h2; omega
  · rw [h2]; omega
theorem opT_bytes {o : OpV} (h : o.okB = true) : bytes (opT o) = o.k :: (varL o.key.size ++ (bytes o.key ++ (varL o.f.toNat ++ (varL o.t.toNat ++ bytes o.d)))) := by
  have hr := okB_rng h
  unfold opT
  rw [bytes_append, bytes_append, bytes_append, bytes_append, bytes_append, bytes_str (by rw [isB_cons]; exact ⟨by omega, isB_nil⟩), varS_ok (x := (o.key.size : Int)) (by unfold okN; omega), varS_ok (x := o.f) (by unfold okN; omega), varS_ok (x := o.t) (by unfold okN; omega),
    bytes_str (varL_isB _), bytes_str (varL_isB _), bytes_str (varL_isB _), Int.toNat_natCast]
  simp only [List.append_assoc, List.singleton_append, List.cons_append, List.nil_append]
theorem rdBytes_app {s : ByteArray} {x t : List Int} (h : bytes s = x ++ t) : ∃ s', rdBytes ⟨s, true⟩ x.length = (strOfNums x, ⟨s', true⟩) ∧ bytes s' = t := by
  have hl := congrArg List.length h
  rw [bytes_length, List.length_append] at hl
  refine ⟨s.extract x.length s.size, ?_, by rw [bytes_tail, h, List.drop_left]⟩
  unfold rdBytes
  rw [if_neg (by simp only [Bool.true_eq_false, false_or]; omega)]
  simp only [Int.toNat_natCast, Prod.mk.injEq, and_true]
  apply str_inj
  have hx : isB x := (isB_append.1 (h ▸ isB_bytes s)).1
  rw [bytes_extract, List.drop_zero, h, List.take_left, bytes_str hx]
theorem rdPiece_app {s : ByteArray} {p : ByteArray} {t : List Int} (hp : p.size ≤ 562949953421311) (h : bytes s = varL p.size ++ (bytes p ++ t)) : ∃ s', rdPiece ⟨s, true⟩ = (p, ⟨s', true⟩) ∧ bytes s' = t := by
  obtain ⟨s1, h1, h2⟩ := rdNum_var (n := (p.size : Int)) (by unfold okN; omega) (by rw [Int.toNat_natCast]; exact h)
  obtain ⟨s2, h3, h4⟩ := rdBytes_app h2
  refine ⟨s2, ?_, h4⟩
  unfold rdPiece
  rw [h1]
  rw [bytes_length, str_bytes] at h3
  exact h3
theorem rdKind_app {s : ByteArray} {b : Int} {t : List Int} (h : bytes s = b :: t) : ∃ s', rdKind ⟨s, true⟩ = (b, ⟨s', true⟩) ∧ bytes s' = t := by
  obtain ⟨s1, h1, h2⟩ := rdBytes_app (x := [b]) (t := t) h
  have hb : isB [b] := (isB_append.1 (show isB ([b] ++ t) by rw [List.singleton_append, ← h]; exact isB_bytes s)).1
  refine ⟨s1, ?_, h2⟩
  unfold rdKind
  have h1 : rdBytes ⟨s, true⟩ 1 = (strOfNums [b], ⟨s1, true⟩) := h1
  rw [h1]
  simp only
  rw [if_neg, byteAt_bytes, bytes_str hb]; rfl
  intro e
  have := congrArg ByteArray.size e
  rw [size_strOfNums] at this
  simp at this
  have e2 : (⟨#[]⟩ : ByteArray).size = 0 := rfl
  omega
def ropR (s : ByteArray) : OpV × Rd :=
  (⟨(rdKind ⟨s, true⟩).1, (rdPiece (rdKind ⟨s, true⟩).2).1, (rdNum (rdPiece (rdKind ⟨s, true⟩).2).2).1, (rdNum (rdNum (rdPiece (rdKind ⟨s, true⟩).2).2).2).1, (rdNum (rdNum (rdPiece (rdKind ⟨s, true⟩).2).2).2).2.s⟩,
   (rdNum (rdNum (rdPiece (rdKind ⟨s, true⟩).2).2).2).2)
def OpAt (s : ByteArray) (o : OpV) : Prop := o.okB = true ∧ s = opT o
theorem ropR_of {s : ByteArray} {o : OpV} (h : OpAt s o) : (ropR s).1 = o ∧ (ropR s).2.ok = true := by
  have hr := okB_rng h.1
  have hb : bytes s = _ := h.2 ▸ opT_bytes h.1
  obtain ⟨s1, a1, b1⟩ := rdKind_app hb
  obtain ⟨s2, a2, b2⟩ := rdPiece_app (by omega) b1
  obtain ⟨s3, a3, b3⟩ := rdNum_var (by unfold okN; omega) b2
  obtain ⟨s4, a4, b4⟩ := rdNum_var (by unfold okN; omega) b3
  unfold ropR
  rw [a1]; simp only
  rw [a2]; simp only
  rw [a3]; simp only
  rw [a4]; simp only
  have e : s4 = o.d := str_inj b4
  rw [e]
  exact ⟨rfl, trivial⟩
theorem OpAt.uniq {s : ByteArray} {o o' : OpV} (h : OpAt s o) (h' : OpAt s o') : o = o' := by rw [← (ropR_of h).1, (ropR_of h').1]
open Classical in
noncomputable def rop (s : ByteArray) : OpV × Bool := if h : ∃ o, OpAt s o then (Classical.choose h, true) else (OpV.zero, false)
theorem rop_cases (s : ByteArray) : (∃ o, OpAt s o ∧ rop s = (o, true)) ∨ ((∀ o, ¬OpAt s o) ∧ rop s = (OpV.zero, false)) := by
  unfold rop
  by_cases h : ∃ o, OpAt s o
  · rw [dif_pos h]; exact .inl ⟨_, Classical.choose_spec h, rfl⟩
  · rw [dif_neg h]; exact .inr ⟨fun o ho => h ⟨o, ho⟩, rfl⟩
theorem opS_at {s : ByteArray} {o : OpV} (h : opS o = s) (hs : s ≠ ⟨#[]⟩) : OpAt s o := by
  unfold opS at h
  split at h
  · rename_i hk; exact ⟨hk, h.symm⟩
  · exact absurd h.symm hs
theorem opS_of {s : ByteArray} {o : OpV} (h : OpAt s o) : opS o = s := by unfold opS; rw [if_pos h.1]; exact h.2.symm
theorem rdKind_nil : (rdKind ⟨⟨#[]⟩, true⟩).2.ok = false := by
  have hb : rdBytes ⟨⟨#[]⟩, true⟩ 1 = (⟨#[]⟩, ⟨⟨#[]⟩, false⟩) := by
    unfold rdBytes
    exact if_pos (Or.inr (show ((0 : Nat) : Int) < 1 by omega))
  unfold rdKind
  rw [hb]
theorem rdNum_bad {s : ByteArray} : (rdNum ⟨s, false⟩).2.ok = false := by unfold rdNum; simp
theorem rdNum_badR {r : Rd} (h : r.ok = false) : (rdNum r).2.ok = false := by unfold rdNum; simp [h]
theorem rdBytes_bad {r : Rd} {n : Int} (h : r.ok = false) : (rdBytes r n).2.ok = false := by unfold rdBytes; simp [h]
theorem rdPiece_bad {r : Rd} (h : r.ok = false) : (rdPiece r).2.ok = false := rdBytes_bad (rdNum_badR h)
theorem ropR_nil : (ropR ⟨#[]⟩).2.ok = false := rdNum_badR (rdNum_badR (rdPiece_bad rdKind_nil))
theorem ropI_eq (s : ByteArray) : rop s = if (ropR s).2.ok = true ∧ opS (ropR s).1 = s then ((ropR s).1, true) else (OpV.zero, false) := by
  rcases rop_cases s with ⟨o, h, e⟩ | ⟨h, e⟩
  · rw [e]
    obtain ⟨h1, h2⟩ := ropR_of h
    rw [h1, if_pos ⟨h2, opS_of h⟩]
  · rw [e]
    split
    · rename_i hc
      have hs : s ≠ ⟨#[]⟩ := by
        rintro rfl
        rw [ropR_nil] at hc; simp at hc
      exact absurd (opS_at hc.2 hs) (h _)
    · rfl
theorem finV_rest {b v r : List Int} {n : Nat} {z : Nat} (h : varsO n b = some (v, r)) (hb : isB b) (hz : b.length ≤ z) : 0 ≤ finV z (varsO n b) ∧ finV z (varsO n b) ≤ z := by
  obtain ⟨_, _, h3⟩ := varsO_some n b v r hb h
  have := congrArg List.length h3
  rw [List.length_append] at this
  rw [h, finV]
  omega
noncomputable def sopR (s : ByteArray) : Option OpV :=
  if finV s.size (varsO 1 ((bytes s).drop 1)) < 0 ∨ 8 < (varsV 1 ((bytes s).drop 1)).getD 0 0 ∨ (s.size : Int) - finV s.size (varsO 1 ((bytes s).drop 1)) < (varsV 1 ((bytes s).drop 1)).getD 0 0 then none
  else if finV s.size (varsO 2 ((bytes s).drop (finV s.size (varsO 1 ((bytes s).drop 1)) + (varsV 1 ((bytes s).drop 1)).getD 0 0).toNat)) < 0 then none
  else some ⟨byteAt s 0, s.extract (finV s.size (varsO 1 ((bytes s).drop 1))).toNat (finV s.size (varsO 1 ((bytes s).drop 1)) + (varsV 1 ((bytes s).drop 1)).getD 0 0).toNat,
    (varsV 2 ((bytes s).drop (finV s.size (varsO 1 ((bytes s).drop 1)) + (varsV 1 ((bytes s).drop 1)).getD 0 0).toNat)).getD 0 0,
    (varsV 2 ((bytes s).drop (finV s.size (varsO 1 ((bytes s).drop 1)) + (varsV 1 ((bytes s).drop 1)).getD 0 0).toNat)).getD 1 0,
    s.extract (finV s.size (varsO 2 ((bytes s).drop (finV s.size (varsO 1 ((bytes s).drop 1)) + (varsV 1 ((bytes s).drop 1)).getD 0 0).toNat))).toNat s.size⟩
theorem varsO_one {x : Nat} (h : x ≤ 562949953421311) (t : List Int) : varsO 1 (varL x ++ t) = some ([(x : Int)], t) := by
  simp only [varsO, rvO_var h, List.drop_left]
theorem varsO_two {x y : Nat} (h : x ≤ 562949953421311) (h2 : y ≤ 562949953421311) (t : List Int) : varsO 2 (varL x ++ (varL y ++ t)) = some ([(x : Int), (y : Int)], t) := by
  simp only [varsO, rvO_var h, List.drop_left, rvO_var h2]
theorem sopR_of {s : ByteArray} {o : OpV} (h : OpAt s o) : sopR s = some o := by
  have hr := okB_rng h.1
  have hb : bytes s = _ := h.2 ▸ opT_bytes h.1
  have hl := congrArg List.length hb
  simp only [bytes_length, List.length_cons, List.length_append] at hl
  have d1 : (bytes s).drop 1 = varL o.key.size ++ (bytes o.key ++ (varL o.f.toNat ++ (varL o.t.toNat ++ bytes o.d))) := by rw [hb]; rfl
  have v1 := varsO_one (x := o.key.size) (by omega) (bytes o.key ++ (varL o.f.toNat ++ (varL o.t.toNat ++ bytes o.d)))
  rw [← d1] at v1
  have w1 := varsV_of _ _ _ _ v1
  have f1 : finV s.size (varsO 1 ((bytes s).drop 1)) = 1 + ((varL o.key.size).length : Int) := by
    rw [v1, finV]; simp only [List.length_append, bytes_length]; omega
  have e1 : (finV s.size (varsO 1 ((bytes s).drop 1)) + (varsV 1 ((bytes s).drop 1)).getD 0 0).toNat = 1 + (varL o.key.size).length + o.key.size := by
    rw [f1, w1]; simp only [List.getD_cons_zero]; omega
  have d2 : (bytes s).drop (1 + (varL o.key.size).length + o.key.size) = varL o.f.toNat ++ (varL o.t.toNat ++ bytes o.d) := by
    rw [← List.drop_drop, ← List.drop_drop, d1, List.drop_left, ← bytes_length o.key, List.drop_left]
  have v2 := varsO_two (x := o.f.toNat) (y := o.t.toNat) (by omega) (by omega) (bytes o.d)
  have w2 := varsV_of _ _ _ _ v2
  have f2 : finV s.size (varsO 2 (varL o.f.toNat ++ (varL o.t.toNat ++ bytes o.d))) = ((1 + (varL o.key.size).length + o.key.size + (varL o.f.toNat).length + (varL o.t.toNat).length : Nat) : Int) := by
    rw [v2, finV, bytes_length]; omega
  unfold sopR
  rw [e1, d2, f2, w2, f1, w1]
  simp only [List.getD_cons_zero, List.getD_cons_succ]
  rw [if_neg (by omega), if_neg (by omega)]
  congr 1
  have k0 : byteAt s 0 = o.k := by rw [byteAt_bytes, hb]; rfl
  have kk : s.extract (1 + ((varL o.key.size).length : Int)).toNat (1 + (varL o.key.size).length + o.key.size) = o.key := by
    apply str_inj
    rw [show (1 + ((varL o.key.size).length : Int)).toNat = 1 + (varL o.key.size).length by omega, bytes_extract, List.drop_take, ← List.drop_drop, d1, List.drop_left,
      show 1 + (varL o.key.size).length + o.key.size - (1 + (varL o.key.size).length) = (bytes o.key).length by rw [bytes_length]; omega, List.take_left]
  have kd : s.extract (((1 + (varL o.key.size).length + o.key.size + (varL o.f.toNat).length + (varL o.t.toNat).length : Nat) : Int)).toNat s.size = o.d := by
    apply str_inj
    rw [bytes_tail, Int.toNat_natCast, ← List.drop_drop, ← List.drop_drop, d2, List.drop_left, List.drop_left]
  rw [k0, kk, kd, show ((o.f.toNat : Nat) : Int) = o.f by omega, show ((o.t.toNat : Nat) : Int) = o.t by omega]
theorem sopR_nil : sopR ⟨#[]⟩ = none := by
  unfold sopR
  rw [if_pos]
  left
  show finV 0 (varsO 1 []) < 0
  have : varsO 1 [] = none := rfl
  rw [this, finV]; omega
theorem ropS_eq (s : ByteArray) : rop s = match sopR s with
    | some o => if opS o = s then (o, true) else (OpV.zero, false)
    | none => (OpV.zero, false) := by
  rcases rop_cases s with ⟨o, h, e⟩ | ⟨h, e⟩
  · rw [e, sopR_of h]
    simp only
    rw [if_pos (opS_of h)]
  · rw [e]
    split
    · rename_i o ho
      split
      · rename_i hc
        have hs : s ≠ ⟨#[]⟩ := by
          rintro rfl
          rw [sopR_nil] at ho; simp at ho
        exact absurd (opS_at hc hs) (h _)
      · rfl
    · rfl
structure AnsV where
  c : Int
  i : Int
  m : Int
  d : ByteArray
  deriving DecidableEq
def AnsV.okB (a : AnsV) : Bool := ansB a.c a.i a.m a.d
def AnsV.zero : AnsV := ⟨0, 0, 0, ⟨#[]⟩⟩
def ansT (a : AnsV) : ByteArray := varS a.c ++ varS a.i ++ varS a.m ++ a.d
def ansS (a : AnsV) : ByteArray := if a.okB = true then ansT a else ⟨#[]⟩
theorem ansB_rng {a : AnsV} (h : a.okB = true) : (0 ≤ a.c ∧ a.c ≤ 4) ∧ (0 ≤ a.i ∧ a.i ≤ 100000) ∧ (0 ≤ a.m ∧ a.m ≤ 1099511627776) ∧ (a.d.size : Int) ≤ 900 := by
  unfold AnsV.okB ansB at h
  simpa only [Bool.and_eq_true, decide_eq_true_eq] using h
theorem ansT_bytes {a : AnsV} (h : a.okB = true) : bytes (ansT a) = varL a.c.toNat ++ (varL a.i.toNat ++ (varL a.m.toNat ++ bytes a.d)) := by
  have hr := ansB_rng h
  unfold ansT
  rw [bytes_append, bytes_append, bytes_append, varS_ok (x := a.c) (by unfold okN; omega), varS_ok (x := a.i) (by unfold okN; omega), varS_ok (x := a.m) (by unfold okN; omega),
    bytes_str (varL_isB _), bytes_str (varL_isB _), bytes_str (varL_isB _)]
  simp only [List.append_assoc]
def ransR (s : ByteArray) : AnsV × Rd :=
  (⟨(rdNum ⟨s, true⟩).1, (rdNum (rdNum ⟨s, true⟩).2).1, (rdNum (rdNum (rdNum ⟨s, true⟩).2).2).1, (rdNum (rdNum (rdNum ⟨s, true⟩).2).2).2.s⟩, (rdNum (rdNum (rdNum ⟨s, true⟩).2).2).2)
def AnsAt (s : ByteArray) (a : AnsV) : Prop := a.okB = true ∧ s = ansT a
theorem ransR_of {s : ByteArray} {a : AnsV} (h : AnsAt s a) : (ransR s).1 = a ∧ (ransR s).2.ok = true := by
  have hr := ansB_rng h.1
  have hb : bytes s = _ := h.2 ▸ ansT_bytes h.1
  obtain ⟨s1, a1, b1⟩ := rdNum_var (by unfold okN; omega) hb
  obtain ⟨s2, a2, b2⟩ := rdNum_var (by unfold okN; omega) b1
  obtain ⟨s3, a3, b3⟩ := rdNum_var (by unfold okN; omega) b2
  unfold ransR
  rw [a1]; simp only
  rw [a2]; simp only
  rw [a3]; simp only
  have e : s3 = a.d := str_inj b3
  rw [e]
  exact ⟨rfl, trivial⟩
theorem AnsAt.uniq {s : ByteArray} {o o' : AnsV} (h : AnsAt s o) (h' : AnsAt s o') : o = o' := by rw [← (ransR_of h).1, (ransR_of h').1]
open Classical in
noncomputable def rans (s : ByteArray) : AnsV × Bool := if h : ∃ o, AnsAt s o then (Classical.choose h, true) else (AnsV.zero, false)
theorem rans_cases (s : ByteArray) : (∃ o, AnsAt s o ∧ rans s = (o, true)) ∨ ((∀ o, ¬AnsAt s o) ∧ rans s = (AnsV.zero, false)) := by
  unfold rans
  by_cases h : ∃ o, AnsAt s o
  · rw [dif_pos h]; exact .inl ⟨_, Classical.choose_spec h, rfl⟩
  · rw [dif_neg h]; exact .inr ⟨fun o ho => h ⟨o, ho⟩, rfl⟩
theorem ansS_at {s : ByteArray} {o : AnsV} (h : ansS o = s) (hs : s ≠ ⟨#[]⟩) : AnsAt s o := by
  unfold ansS at h
  split at h
  · rename_i hk; exact ⟨hk, h.symm⟩
  · exact absurd h.symm hs
theorem ansS_of {s : ByteArray} {o : AnsV} (h : AnsAt s o) : ansS o = s := by unfold ansS; rw [if_pos h.1]; exact h.2.symm
theorem rv_nil : rv ⟨#[]⟩ = (0, 0) := rfl
theorem rdNum_nil : (rdNum ⟨⟨#[]⟩, true⟩).2.ok = false := by
  unfold rdNum
  simp only [rv_nil]
  rfl
theorem ransI_eq (s : ByteArray) : rans s = if (ransR s).2.ok = true ∧ ansS (ransR s).1 = s then ((ransR s).1, true) else (AnsV.zero, false) := by
  rcases rans_cases s with ⟨o, h, e⟩ | ⟨h, e⟩
  · rw [e]
    obtain ⟨h1, h2⟩ := ransR_of h
    rw [h1, if_pos ⟨h2, ansS_of h⟩]
  · rw [e]
    split
    · rename_i hc
      have hs : s ≠ ⟨#[]⟩ := by
        rintro rfl
        have : (ransR ⟨#[]⟩).2.ok = false := rdNum_badR (rdNum_badR rdNum_nil)
        rw [this] at hc; simp at hc
      exact absurd (ansS_at hc.2 hs) (h _)
    · rfl
theorem varsO_three {x y z : Nat} (h : x ≤ 562949953421311) (h2 : y ≤ 562949953421311) (h3 : z ≤ 562949953421311) (t : List Int) : varsO 3 (varL x ++ (varL y ++ (varL z ++ t))) = some ([(x : Int), (y : Int), (z : Int)], t) := by
  simp only [varsO, rvO_var h, List.drop_left, rvO_var h2, rvO_var h3]
noncomputable def sansR (s : ByteArray) : Option AnsV :=
  if finV s.size (varsO 3 ((bytes s).drop 0)) < 0 then none
  else some ⟨(varsV 3 ((bytes s).drop 0)).getD 0 0, (varsV 3 ((bytes s).drop 0)).getD 1 0, (varsV 3 ((bytes s).drop 0)).getD 2 0, s.extract (finV s.size (varsO 3 ((bytes s).drop 0))).toNat s.size⟩
theorem sansR_of {s : ByteArray} {o : AnsV} (h : AnsAt s o) : sansR s = some o := by
  have hr := ansB_rng h.1
  have hb : bytes s = _ := h.2 ▸ ansT_bytes h.1
  have hl := congrArg List.length hb
  simp only [bytes_length, List.length_append] at hl
  have v1 := varsO_three (x := o.c.toNat) (y := o.i.toNat) (z := o.m.toNat) (by omega) (by omega) (by omega) (bytes o.d)
  rw [← hb] at v1
  have w1 := varsV_of _ _ _ _ v1
  have f1 : finV s.size (varsO 3 (bytes s)) = (((varL o.c.toNat).length + (varL o.i.toNat).length + (varL o.m.toNat).length : Nat) : Int) := by
    rw [v1, finV, bytes_length]; omega
  unfold sansR
  rw [List.drop_zero, f1, w1]
  simp only [List.getD_cons_zero, List.getD_cons_succ]
  rw [if_neg (by omega)]
  congr 1
  have kd : s.extract (((varL o.c.toNat).length + (varL o.i.toNat).length + (varL o.m.toNat).length : Nat) : Int).toNat s.size = o.d := by
    apply str_inj
    rw [bytes_tail, Int.toNat_natCast, ← List.drop_drop, ← List.drop_drop, hb, List.drop_left, List.drop_left, List.drop_left]
  rw [kd, show ((o.c.toNat : Nat) : Int) = o.c by omega, show ((o.i.toNat : Nat) : Int) = o.i by omega, show ((o.m.toNat : Nat) : Int) = o.m by omega]
theorem ransS_eq (s : ByteArray) : rans s = match sansR s with
    | some o => if ansS o = s then (o, true) else (AnsV.zero, false)
    | none => (AnsV.zero, false) := by
  rcases rans_cases s with ⟨o, h, e⟩ | ⟨h, e⟩
  · rw [e, sansR_of h]
    simp only
    rw [if_pos (ansS_of h)]
  · rw [e]
    split
    · rename_i o ho
      split
      · rename_i hc
        have hs : s ≠ ⟨#[]⟩ := by
          rintro rfl
          have : sansR ⟨#[]⟩ = none := by
            unfold sansR
            have : varsO 3 ((bytes ⟨#[]⟩).drop 0) = none := rfl
            rw [this, finV, if_pos (by omega)]
          rw [this] at ho; simp at ho
        exact absurd (ansS_at hc hs) (h _)
      · rfl
    · rfl
noncomputable def callB (k : Int) (key : ByteArray) (f t : Int) (d : ByteArray) : Bool := opB (if k = 1 then 4 else if k = 2 then 5 else if k = 3 then 2 else if k = 4 then 3 else 0) key f t d
instance g112 (k : Int) (key : ByteArray) (f t : Int) (d : ByteArray) : Fs 112 [⟨.agg, [.int .i64 k, .str key, .int .i64 f, .int .i64 t, .str d]⟩] (key.size ≤ 9223372036854775807) (bl (callB k key f t d)) := by
  refine F_of m112 rfl fun hyp => ?_
  simp (maxSteps := 1000000) (disch := omega) only [go_sem]
  repeat' (first | (with_reducible intro h; (try simp only [h]); (try simp only [HS] at h)) | ((with_reducible apply scEnd_of); exact rfl; exact rfl) | ((with_reducible apply ScW_of); rfl; rfl; trivial) | with_reducible first | apply Br_of | refine O1 ?_ | refine O2 ?_ | refine O3 ?_ | refine O4 ?_ | refine O5 ?_ | refine CI ?_ | refine CJ ?_ | refine CQp ?_ | refine CQ ?_ | simp (maxSteps := 1000000) (disch := omega) only [go_sem])
  all_goals (simp only [Prod.mk.injEq, SV.mk.injEq, List.cons.injEq, Cell.bool.injEq, and_true, true_and, callB, opB, eq_comm (a := (⟨#[]⟩ : ByteArray)), eq_comm (a := (0 : Int))]; rw [Bool.eq_iff_iff]; simp only [Bool.and_eq_true, decide_eq_true_eq, spanP]; grind)
instance g109 (k : Int) (key : ByteArray) (f t : Int) (d : ByteArray) : Fs 109 [⟨.agg, [.int .i64 k, .str key, .int .i64 f, .int .i64 t, .str d]⟩] True (bl (callB k key f t d)) := by
  refine F_of m109 rfl fun hyp => ?_
  simp (maxSteps := 1000000) (disch := omega) only [go_sem]
  repeat' (first | (with_reducible intro h; (try simp only [h]); (try simp only [HS] at h)) | ((with_reducible apply scEnd_of); exact rfl; exact rfl) | ((with_reducible apply ScW_of); rfl; rfl; trivial) | with_reducible first | apply Br_of | refine O1 ?_ | refine O2 ?_ | refine O3 ?_ | refine O4 ?_ | refine O5 ?_ | refine CI ?_ | refine CJ ?_ | refine CQp ?_ | refine CQ ?_ | simp (maxSteps := 1000000) (disch := omega) only [go_sem])
  all_goals (simp only [callB]; grind)
attribute [push_cast] rowsI_length
instance g85 (k : Int) (key : ByteArray) (f t : Int) (d : ByteArray) : Fs 85 [⟨.agg, [.int .i64 k, .str key, .int .i64 f, .int .i64 t, .str d]⟩] (key.size ≤ 1152921504606846976 ∧ d.size ≤ 1152921504606846976) (st1 (opS ⟨k, key, f, t, d⟩)) := by
  refine F_of m85 rfl fun hyp => ?_
  have z1 := varS_le key.size
  have z2 := varS_le f
  have z3 := varS_le t
  simp (maxSteps := 1000000) (disch := omega) only [go_sem]
  repeat' (first | (with_reducible intro h; (try simp only [h]); (try simp only [HS] at h)) | ((with_reducible apply scEnd_of); exact rfl; exact rfl) | ((with_reducible apply ScW_of); rfl; rfl; trivial) | with_reducible first | apply Br_of | refine O1 ?_ | refine O2 ?_ | refine O3 ?_ | refine O4 ?_ | refine O5 ?_ | refine CI ?_ | refine CJ ?_ | refine CQp ?_ | refine CQ ?_ | simp (maxSteps := 1000000) (disch := omega) only [go_sem])
  · rw [opS, if_neg (by rw [OpV.okB, h]; simp)]
  · have hk := okB_rng (o := ⟨k, key, f, t, d⟩) h
    simp only at hk
    rw [wB (by omega) (by omega), opS, if_pos (show OpV.okB ⟨k, key, f, t, d⟩ = true from h)]; rfl
instance g79 (k : Int) (key : ByteArray) (f t : Int) (d : ByteArray) : Fs 79 [⟨.agg, [.int .i64 k, .str key, .int .i64 f, .int .i64 t, .str d]⟩] (key.size ≤ 1152921504606846976 ∧ d.size ≤ 1152921504606846976) (st1 (opS ⟨k, key, f, t, d⟩)) := by
  refine F_of m79 rfl fun hyp => ?_
  have z1 := varS_le key.size
  have z2 := varS_le f
  have z3 := varS_le t
  simp (maxSteps := 1000000) (disch := omega) only [go_sem]
  repeat' (first | (with_reducible intro h; (try simp only [h]); (try simp only [HS] at h)) | ((with_reducible apply scEnd_of); exact rfl; exact rfl) | ((with_reducible apply ScW_of); rfl; rfl; trivial) | with_reducible first | apply Br_of | refine O1 ?_ | refine O2 ?_ | refine O3 ?_ | refine O4 ?_ | refine O5 ?_ | refine CI ?_ | refine CJ ?_ | refine CQp ?_ | refine CQ ?_ | simp (maxSteps := 1000000) (disch := omega) only [go_sem])
  · rw [opS, if_neg (by rw [OpV.okB, h]; simp)]
  · have hk := okB_rng (o := ⟨k, key, f, t, d⟩) h
    simp only at hk
    rw [wB (by omega) (by omega), opS, if_pos (show OpV.okB ⟨k, key, f, t, d⟩ = true from h)]; rfl
instance g102 (c i m : Int) (d : ByteArray) : Fs 102 [⟨.agg, [.int .i64 c, .int .i64 i, .int .i64 m, .str d]⟩] True (bl (ansB c i m d)) := by
  refine F_of m102 rfl fun hyp => ?_
  simp (maxSteps := 1000000) (disch := omega) only [go_sem]
  repeat' (first | (with_reducible intro h; (try simp only [h]); (try simp only [HS] at h)) | ((with_reducible apply scEnd_of); exact rfl; exact rfl) | ((with_reducible apply ScW_of); rfl; rfl; trivial) | with_reducible first | apply Br_of | refine O1 ?_ | refine O2 ?_ | refine O3 ?_ | refine O4 ?_ | refine O5 ?_ | refine CI ?_ | refine CJ ?_ | refine CQp ?_ | refine CQ ?_ | simp (maxSteps := 1000000) (disch := omega) only [go_sem])
  all_goals (simp only [ansB, Bool.and_assoc])
instance g34 (c i m : Int) (d : ByteArray) : Fs 34 [⟨.agg, [.int .i64 c, .int .i64 i, .int .i64 m, .str d]⟩] True (bl (ansB c i m d)) := by
  refine F_of m34 rfl fun hyp => ?_
  simp (maxSteps := 1000000) (disch := omega) only [go_sem]
  repeat' (first | (with_reducible intro h; (try simp only [h]); (try simp only [HS] at h)) | ((with_reducible apply scEnd_of); exact rfl; exact rfl) | ((with_reducible apply ScW_of); rfl; rfl; trivial) | with_reducible first | apply Br_of | refine O1 ?_ | refine O2 ?_ | refine O3 ?_ | refine O4 ?_ | refine O5 ?_ | refine CI ?_ | refine CJ ?_ | refine CQp ?_ | refine CQ ?_ | simp (maxSteps := 1000000) (disch := omega) only [go_sem])
  all_goals (simp only [ansB, Bool.and_assoc])
instance g162 (c i m : Int) (d : ByteArray) : Fs 162 [⟨.agg, [.int .i64 c, .int .i64 i, .int .i64 m, .str d]⟩] (d.size ≤ 1152921504606846976) (st1 (ansS ⟨c, i, m, d⟩)) := by
  refine F_of m162 rfl fun hyp => ?_
  have z1 := varS_le c
  have z2 := varS_le i
  have z3 := varS_le m
  simp (maxSteps := 1000000) (disch := omega) only [go_sem]
  repeat' (first | (with_reducible intro h; (try simp only [h]); (try simp only [HS] at h)) | ((with_reducible apply scEnd_of); exact rfl; exact rfl) | ((with_reducible apply ScW_of); rfl; rfl; trivial) | with_reducible first | apply Br_of | refine O1 ?_ | refine O2 ?_ | refine O3 ?_ | refine O4 ?_ | refine O5 ?_ | refine CI ?_ | refine CJ ?_ | refine CQp ?_ | refine CQ ?_ | simp (maxSteps := 1000000) (disch := omega) only [go_sem])
  · rw [ansS, if_neg (by rw [AnsV.okB, h]; simp)]
  · rw [ansS, if_pos (show AnsV.okB ⟨c, i, m, d⟩ = true from h)]; rfl
instance g127 (s : ByteArray) (a n : Int) : Fs 127 [st1 s, i64 a, i64 n] ((s.size ≤ 1152921504606846976 ∧ 1 ≤ n ∧ n ≤ 1000) ∧ 0 ≤ a ∧ a ≤ 1152921504606846976) (⟨.tup [(false, 1), (false, 1)], [.own 1 (rowsI (varsV n.toNat ((bytes s).drop a.toNat))), .int .i64 (finV s.size (varsO n.toNat ((bytes s).drop a.toNat)))]⟩) := by
  refine F_of m127 rfl fun hyp => ?_
  simp (maxSteps := 1000000) (disch := omega) only [go_sem]
  refine LoopK_of (α := Nat × Nat × List Int) (fun p => ⟨[(9, i64 p.1), (8, ⟨.one, [.own 1 (rowsI p.2.2)]⟩), (2, i64 n), (1, i64 p.2.1), (0, st1 s)], [], [(0, st1 s), (1, i64 a), (2, i64 n)]⟩) (fun p => p.1 ≤ n.toNat ∧ (0 < p.1 → p.2.1 ≤ s.size) ∧ (p.1 = 0 → p.2.1 = a.toNat) ∧ p.2.2.length = p.1 ∧ p.2.2 ++ varsV (n.toNat - p.1) ((bytes s).drop p.2.1) = varsV n.toNat ((bytes s).drop a.toNat) ∧ finV s.size (varsO (n.toNat - p.1) ((bytes s).drop p.2.1)) = finV s.size (varsO n.toNat ((bytes s).drop a.toNat))) (fun p => n.toNat - p.1) (0, a.toNat, []) ?h0 ⟨by simp, by simp, by simp, rfl, by simp, by simp⟩ ?_
  case h0 => rw [show ((a.toNat : Nat) : Int) = a by omega]; rfl
  rintro ⟨i, b, o⟩ ⟨h1, h2, h7, h3, h4, h5⟩
  simp only at h1 h2 h3 h4 h5 h7
  rcases hq : rvO ((bytes s).drop b) with _ | ⟨x, k⟩
  · have hrv : rv (s.extract b s.size) = (0, 0) := by unfold rv; rw [bytes_tail, hq]
    simp (maxSteps := 1000000) (disch := omega) only [go_sem]
    repeat' (first | (with_reducible intro h; (try simp only [h]); (try simp only [HS] at h)) | ((with_reducible apply scEnd_of); exact rfl; exact rfl) | ((with_reducible apply ScW_of); rfl; rfl; trivial) | with_reducible first | apply Br_of | refine O1 ?_ | refine O2 ?_ | refine O3 ?_ | refine O4 ?_ | refine O5 ?_ | refine CI ?_ | refine CJ ?_ | refine CQp ?_ | refine CQ ?_ | simp (maxSteps := 1000000) (disch := omega) only [go_sem, hrv])
    all_goals (try (exfalso; omega))
    · rw [show n.toNat - i = (n.toNat - i - 1) + 1 by omega, (varsV_none hq).1, List.append_nil] at h4
      rw [show n.toNat - i = (n.toNat - i - 1) + 1 by omega, (varsV_none hq).2] at h5
      rw [← h4, ← h5]; rfl
    · rw [show n.toNat - i = (n.toNat - i - 1) + 1 by omega, (varsV_none hq).1, List.append_nil] at h4
      rw [show n.toNat - i = (n.toNat - i - 1) + 1 by omega, (varsV_none hq).2] at h5
      rw [← h4, ← h5]; rfl
    · rw [show n.toNat - i = 0 by omega] at h4 h5
      have h6 : finV s.size (varsO 0 ((bytes s).drop b)) = (b : Int) := by simp only [varsO, finV, List.length_drop, bytes_length]; omega
      rw [h6] at h5
      simp only [varsV, List.append_nil] at h4
      rw [← h4, ← h5]
  · have hrv : rv (s.extract b s.size) = ((x : Int), (k : Int)) := by unfold rv; rw [bytes_tail, hq]
    obtain ⟨k1, k2, k3, k4⟩ := rvO_some (isB_drop (isB_bytes s) b) hq
    rw [List.length_drop, bytes_length] at k2
    simp (maxSteps := 1000000) (disch := omega) only [go_sem]
    repeat' (first | (with_reducible intro h; (try simp only [h]); (try simp only [HS] at h)) | ((with_reducible apply scEnd_of); exact rfl; exact rfl) | ((with_reducible apply ScW_of); rfl; rfl; trivial) | with_reducible first | apply Br_of | refine O1 ?_ | refine O2 ?_ | refine O3 ?_ | refine O4 ?_ | refine O5 ?_ | refine CI ?_ | refine CJ ?_ | refine CQp ?_ | refine CQ ?_ | simp (maxSteps := 1000000) (disch := omega) only [go_sem, hrv])
    all_goals (try (exfalso; omega))
    · rw [show n.toNat - i = (n.toNat - (i + 1)) + 1 by omega, varsV_step hq, List.drop_drop] at h4
      rw [show n.toNat - i = (n.toNat - (i + 1)) + 1 by omega, finV_step hq, List.drop_drop] at h5
      refine LoopQ_of (i + 1, b + k, o ++ [(x : Int)]) rfl ⟨by simp only; omega, by simp only; omega, by simp only; omega, by simp [h3], ?_, h5⟩ (by simp only; omega)
      rw [← h4]; simp
    · rw [show n.toNat - i = 0 by omega] at h4 h5
      have h6 : finV s.size (varsO 0 ((bytes s).drop b)) = (b : Int) := by simp only [varsO, finV, List.length_drop, bytes_length]; omega
      rw [h6] at h5
      simp only [varsV, List.append_nil] at h4
      rw [← h4, ← h5]
abbrev EV := Int × ByteArray
def eZ : EV := (0, ⟨#[]⟩)
def rowsE (l : List EV) : List (List D) := l.map fun p => [.int .i64 p.1, .str p.2]
@[go_sem] theorem rowsE_length (l : List EV) : (rowsE l).length = l.length := by simp [rowsE]
@[simp] theorem rowsE_inj {a b : List EV} : rowsE a = rowsE b ↔ a = b := ⟨fun h => map_inj (by rintro ⟨a, b⟩ ⟨c, d⟩ h; simpa using h) h, fun h => by rw [h]⟩
theorem rowsE_snoc (l : List EV) (a : Int) (b : ByteArray) : rowsE l ++ [[.int .i64 a, .str b]] = rowsE (l ++ [(a, b)]) := by simp [rowsE]
theorem rowsE_at {l : List EV} {i : Nat} (h : i < l.length) : ((rowsE l).drop i).flatten = .int .i64 (l.getD i eZ).1 :: .str (l.getD i eZ).2 :: rowsT (rowsE l) i := by
  have h' : i < (rowsE l).length := by rw [rowsE_length]; exact h
  rw [List.drop_eq_getElem_cons h', List.flatten_cons]
  simp [rowsE, rowsT, List.getD, h]
attribute [go_sem] rowsE_snoc rowsE_at
@[go_sem] theorem rowsE_get {l : List EV} {i : Nat} (h : i < l.length) : (rowsE l)[i]? = some [.int .i64 (l.getD i eZ).1, .str (l.getD i eZ).2] := by
  simp [rowsE, List.getD, h]
theorem drop_getD {α : Type} {l : List α} {i : Nat} (z : α) (h : i < l.length) : l.drop i = l.getD i z :: l.drop (i + 1) := by
  rw [List.drop_eq_getElem_cons h]; simp [List.getD, h]
theorem getD_mem {α : Type} {l : List α} {i : Nat} (z : α) (h : i < l.length) : l.getD i z ∈ l := by
  simp only [List.getD, List.getElem?_eq_getElem h, Option.getD_some]; exact List.getElem_mem h
def szB (b : ByteArray) (n : Int) : Int := if n - b.size < 0 then -1 else n - b.size
def szEL : List EV → Int → Int
  | [], n => n
  | e :: t, n => if n - e.2.size < 0 then -1 else szEL t (n - e.2.size)
def szES (l : List EV) (n : Int) : Int := if n - l.length < 0 then -1 else szEL l (n - l.length)
theorem szEL_rng : ∀ (l : List EV) (n : Int), 0 ≤ n → szEL l n ≤ n ∧ (0 ≤ szEL l n → ∀ e ∈ l, (e.2.size : Int) ≤ n)
  | [], n, h => by simp [szEL]
  | e :: t, n, h => by
    simp only [szEL]
    split
    · exact ⟨by omega, fun hh => by omega⟩
    · have ih := szEL_rng t (n - e.2.size) (by omega)
      refine ⟨by omega, fun hh x hx => ?_⟩
      rcases List.mem_cons.1 hx with rfl | hx
      · omega
      · have := ih.2 hh x hx; omega
theorem szES_rng {l : List EV} {n : Int} (h : 0 ≤ n) : szES l n ≤ n ∧ (0 ≤ szES l n → (l.length : Int) ≤ n ∧ ∀ e ∈ l, (e.2.size : Int) ≤ n) := by
  unfold szES
  split
  · exact ⟨by omega, fun hh => by omega⟩
  · have ih := szEL_rng l (n - l.length) (by omega)
    refine ⟨by omega, fun hh => ⟨by omega, fun e he => ?_⟩⟩
    have := ih.2 hh e he
    omega
def runB (low high : Int) : List EV → Bool
  | [] => true
  | e :: t => decide (1 ≤ e.1) && (decide (low ≤ e.1) && decide (e.1 ≤ high)) && decide ((e.2.size : Int) ≤ 900) && runB e.1 high t
theorem runB_low (low high : Int) : ∀ l, runB low high l = runB (if low < 1 then 1 else low) high l
  | [] => rfl
  | e :: t => by
    simp only [runB]
    congr 2
    rw [Bool.eq_iff_iff]
    simp only [Bool.and_eq_true, decide_eq_true_eq]
    split <;> omega
def eqE (l m : List EV) : Bool := decide (l = m)
attribute [go_sem] elemSt modP
theorem modify_row {α : Type} {l : List α} {i : Nat} {f : α → α} {r : α} (h : l[i]? = some r) : l.modify i f = l.set i (f r) := by
  apply List.ext_getElem?
  intro j
  rw [List.getElem?_modify, List.getElem?_set]
  obtain ⟨hi, rfl⟩ := List.getElem?_eq_some_iff.1 h
  by_cases hj : i = j
  · subst hj; simp [hi]
  · simp [hj]
theorem setCells_row {sz i : Nat} : ∀ (ds : List D) (rows : List (List D)) (j : Nat) (r : List D), rows[i]? = some r → r.length = sz → j + ds.length ≤ sz → setCells sz rows (i * sz + j) ds = rows.set i (r.take j ++ ds ++ r.drop (j + ds.length))
  | [], rows, j, r, hr, hl, hj => by
    obtain ⟨hi, rfl⟩ := List.getElem?_eq_some_iff.1 hr
    simp [setCells]
  | d :: ds, rows, j, r, hr, hl, hj => by
    have hi : i < rows.length := (List.getElem?_eq_some_iff.1 hr).1
    simp only [List.length_cons] at hj
    have hd : (i * sz + j) / sz = i := by rw [Nat.mul_comm, Nat.mul_add_div (by omega), Nat.div_eq_of_lt (by omega), Nat.add_zero]
    have hm : (i * sz + j) % sz = j := by rw [Nat.mul_comm, Nat.mul_add_mod, Nat.mod_eq_of_lt (by omega)]
    have hs : setCellAt sz rows (i * sz + j) d = rows.set i (r.set j d) := by
      unfold setCellAt
      rw [hd, hm]
      exact modify_row hr
    have hr2 : (rows.set i (r.set j d))[i]? = some (r.set j d) := by rw [List.getElem?_set_self hi]
    have ih := setCells_row ds (rows.set i (r.set j d)) (j + 1) (r.set j d) hr2 (by rw [List.length_set, hl]) (by omega)
    rw [setCells, hs, show i * sz + j + 1 = i * sz + (j + 1) by omega, ih, List.set_set]
    congr 1
    rw [List.length_cons, show j + 1 + ds.length = j + (ds.length + 1) by omega, List.drop_set_of_lt (by omega)]
    congr 1
    rw [List.take_succ_eq_append_getElem (by rw [List.length_set]; omega), List.take_set_of_le (by omega)]
    simp
theorem setCells_full {sz i : Nat} {ds : List D} {rows : List (List D)} {r : List D} (hr : rows[i]? = some r) (hl : r.length = sz) (hd : ds.length = sz) : setCells sz rows (i * sz) ds = rows.set i ds := by
  have := setCells_row ds rows 0 r hr hl (by omega)
  rw [Nat.add_zero] at this
  rw [this, List.drop_of_length_le (by omega)]; simp
theorem rowsE_put {l : List EV} {i : Nat} {a : Int} {b : ByteArray} (h : i < l.length) : setCells 2 (rowsE l) (i * 2) [.int .i64 a, .str b] = rowsE (l.set i (a, b)) := by
  rw [setCells_full (sz := 2) (rowsE_get h) rfl (show ([.int .i64 a, .str b] : List D).length = 2 from rfl)]
  simp [rowsE, List.map_set]
theorem fill_step {α : Type} {l : List α} {i : Nat} (z : α) (h : i < l.length) : (l.take i ++ List.replicate (l.length - i) z).set i (l.getD i z) = l.take (i + 1) ++ List.replicate (l.length - (i + 1)) z := by
  have hl : (l.take i).length = i := by rw [List.length_take]; omega
  rw [List.set_append_right _ _ (by omega), hl, Nat.sub_self, show l.length - i = (l.length - (i + 1)) + 1 by omega, List.replicate_succ, List.set_cons_zero,
    List.take_succ_eq_append_getElem h, List.append_assoc]
  simp [List.getD, h]
theorem take_snocZ {α : Type} {l : List α} {i : Nat} (z : α) (h : i < l.length) : l.take (i + 1) = l.take i ++ [l.getD i z] := by
  rw [List.take_succ_eq_append_getElem h]; simp [List.getD, h]
theorem rowsE_set {l : List EV} {i n : Nat} (h : i < n) : rowsE (l.take i ++ List.replicate (n - i) eZ) = rowsE (l.take i) ++ List.replicate (n - i) [.int .i64 0, .str ⟨#[]⟩] := by
  simp [rowsE, eZ]
attribute [push_cast] rowsE_length
instance g163 (l m : List EV) : Fs 163 [⟨.one, [.ro 2 (rowsE l)]⟩, ⟨.one, [.ro 2 (rowsE m)]⟩] (l.length ≤ 1048576) (bl (eqE l m)) := by
  refine F_of m163 rfl fun hyp => ?_
  simp (maxSteps := 1000000) (disch := omega) only [go_sem]
  repeat' (first | (with_reducible intro h; (try simp only [h]); (try simp only [HS] at h)) | ((with_reducible apply scEnd_of); exact rfl; exact rfl) | ((with_reducible apply ScW_of); rfl; rfl; trivial) | with_reducible first | apply Br_of | refine O1 ?_ | refine O2 ?_ | refine O3 ?_ | refine O4 ?_ | refine O5 ?_ | refine CI ?_ | refine CJ ?_ | refine CQp ?_ | refine CQ ?_ | simp (maxSteps := 1000000) (disch := omega) only [go_sem])
  · rw [eqE, decide_eq_false]; rintro rfl; omega
  · refine LoopK_of (α := Nat) (fun p => ⟨[(5, i64 p), (1, ⟨.one, [.ro 2 (rowsE m)]⟩), (0, ⟨.one, [.ro 2 (rowsE l)]⟩)], [], [(0, ⟨.one, [.ro 2 (rowsE l)]⟩), (1, ⟨.one, [.ro 2 (rowsE m)]⟩)]⟩) (fun p => p ≤ l.length ∧ l.take p = m.take p) (fun p => l.length - p) 0 rfl ⟨Nat.zero_le _, by simp⟩ ?_
    rintro i ⟨h1, h2⟩
    simp (maxSteps := 1000000) (disch := omega) only [go_sem]
    repeat' (first | (with_reducible intro h; (try simp only [h]); (try simp only [HS] at h)) | ((with_reducible apply scEnd_of); exact rfl; exact rfl) | ((with_reducible apply ScW_of); rfl; rfl; trivial) | with_reducible first | apply Br_of | refine O1 ?_ | refine O2 ?_ | refine O3 ?_ | refine O4 ?_ | refine O5 ?_ | refine CI ?_ | refine CJ ?_ | refine CQp ?_ | refine CQ ?_ | simp (maxSteps := 1000000) (disch := omega) only [go_sem])
    · rw [eqE, decide_eq_false]; rintro rfl; rcases h with h | h <;> exact h rfl
    · refine LoopQ_of (i + 1) rfl ⟨by omega, ?_⟩ (by omega)
      rw [take_snocZ eZ (by omega), take_snocZ eZ (by omega), h2]
      congr 2
      exact Prod.ext h.1 h.2
    · rw [List.take_of_length_le (by omega), List.take_of_length_le (by omega)] at h2
      rw [eqE, decide_eq_true h2]
class Row (α : Type) extends Inhabited α where
  sz : Nat
  row : α → List D
  len : ∀ x, (row x).length = sz
def rows {α : Type} [Row α] (l : List α) : List (List D) := l.map Row.row
section
variable {α : Type} [Row α] {l : List α} {i : Nat}
@[go_sem, push_cast] theorem rows_length (l : List α) : (rows l).length = l.length := by simp [rows]
theorem rows_snoc (l : List α) (x : α) : rows l ++ [Row.row x] = rows (l ++ [x]) := by simp [rows]
@[go_sem] theorem rows_get (h : i < l.length) : (rows l)[i]? = some (Row.row (l.getD i default)) := by
  simp [rows, List.getD, h]
@[go_sem] theorem rows_at (h : i < l.length) : ((rows l).drop i).flatten = Row.row (l.getD i default) ++ rowsT (rows l) i := by
  have h' : i < (rows l).length := by rw [rows_length]; exact h
  rw [List.drop_eq_getElem_cons h', List.flatten_cons]
  simp [rows, rowsT, List.getD, h]
@[go_sem] theorem rows_at0 (h : 0 < l.length) : (rows l).flatten = Row.row (l.getD 0 default) ++ rowsT (rows l) 0 := by
  have := rows_at h
  rwa [List.drop_zero] at this
theorem rows_put {n : Nat} (hn : n = Row.sz α) (x : α) (h : i < l.length) : setCells n (rows l) (i * n) (Row.row x) = rows (l.set i x) := by
  subst hn
  rw [setCells_full (rows_get h) (Row.len _) (Row.len _)]
  simp [rows, List.map_set]
theorem rows_fill (n : Nat) (x : α) : List.replicate n (Row.row x) = rows (List.replicate n x) := by simp [rows]
theorem rows_part {n j : Nat} {ds : List D} {x : α} (hn : n = Row.sz α) (hx : Row.row x = (Row.row (l.getD i default)).take j ++ ds ++ (Row.row (l.getD i default)).drop (j + ds.length)) (hj : j + ds.length ≤ n) (h : i < l.length) :
    setCells n (rows l) (i * n + j) ds = rows (l.set i x) := by
  subst hn
  rw [setCells_row ds _ _ _ (rows_get h) (Row.len _) hj, ← hx]
  simp [rows, List.map_set]
theorem rows_part0 {n : Nat} {ds : List D} {x : α} (hn : n = Row.sz α) (hx : Row.row x = ds ++ (Row.row (l.getD i default)).drop ds.length) (hj : ds.length ≤ n) (h : i < l.length) : setCells n (rows l) (i * n) ds = rows (l.set i x) := by
  have := rows_part (j := 0) (ds := ds) (x := x) hn (by simpa using hx) (by omega) h
  rwa [Nat.add_zero] at this
@[go_sem] theorem numsOf_no : numsOf ([] : List (List D)) = some [] := rfl
end
theorem take_eq_snoc {α : Type} {l m : List α} {i : Nat} (z : α) (h1 : i < l.length) (h2 : i < m.length) (h : l.take i = m.take i) (hz : l.getD i z = m.getD i z) : l.take (i + 1) = m.take (i + 1) := by
  rw [take_snocZ z h1, take_snocZ z h2, h, hz]
theorem take_full {α : Type} {l m : List α} {i : Nat} (h1 : l.length ≤ i) (h2 : m.length ≤ i) (h : l.take i = m.take i) : l = m := by
  rwa [List.take_of_length_le h1, List.take_of_length_le h2] at h
theorem getD_of {α : Type} {P : α → Prop} {l : List α} (z : α) (h : ∀ x ∈ l, P x) {i : Nat} (hi : i < l.length) : P (l.getD i z) := h _ (getD_mem z hi)
def szI (t n : Int) : Int := if n < t then -1 else n - t
theorem szI_rng (t n : Int) (h : 0 ≤ t) (hn : -1 ≤ n) : -1 ≤ szI t n ∧ szI t n ≤ n := by unfold szI; split <;> omega
theorem szI_cases (t n : Int) : (n < t ∧ szI t n = -1) ∨ (t ≤ n ∧ szI t n = n - t) := by unfold szI; split <;> omega
theorem szI_lo {t n : Int} (h : n < t) : szI t n = -1 := if_pos h
theorem szI_hi {t n : Int} (h : t ≤ n) : szI t n = n - t := if_neg (by omega)
def mS {α : Type} (f : α → Int) : List α → Int
  | [] => 0
  | x :: t => f x + mS f t
def mL {α : Type} (f : α → Int) (l : List α) : Int := l.length + mS f l
theorem mS_nn {α : Type} {f : α → Int} (hf : ∀ x, 0 ≤ f x) : ∀ l, 0 ≤ mS f l
  | [] => Int.le_refl _
  | x :: t => by have := mS_nn hf t; have := hf x; simp only [mS]; omega
theorem mS_append {α : Type} {f : α → Int} : ∀ l m, mS f (l ++ m) = mS f l + mS f m
  | [], m => by simp [mS]
  | x :: t, m => by simp only [List.cons_append, mS, mS_append t m]; omega
theorem mS_take {α : Type} {f : α → Int} {l : List α} {i : Nat} (z : α) (h : i < l.length) : mS f (l.take (i + 1)) = mS f (l.take i) + f (l.getD i z) := by
  rw [take_snocZ z h, mS_append]; simp [mS]
theorem mS_take_le {α : Type} {f : α → Int} (hf : ∀ x, 0 ≤ f x) (l : List α) (i : Nat) : mS f (l.take i) ≤ mS f l := by
  have := mS_append (f := f) (l.take i) (l.drop i)
  rw [List.take_append_drop] at this
  have := mS_nn hf (l.drop i)
  omega
theorem mS_mem {α : Type} {f : α → Int} (hf : ∀ x, 0 ≤ f x) : ∀ {l : List α} {x : α}, x ∈ l → f x ≤ mS f l
  | y :: t, x, h => by
    have h1 := mS_nn hf t
    have h2 := hf y
    simp only [mS]
    rcases List.mem_cons.1 h with rfl | h
    · omega
    · have := mS_mem hf h; omega
theorem mL_nn {α : Type} {f : α → Int} (hf : ∀ x, 0 ≤ f x) (l : List α) : 0 ≤ mL f l := by have := mS_nn hf l; unfold mL; omega
theorem mL_mem {α : Type} {f : α → Int} (hf : ∀ x, 0 ≤ f x) {l : List α} {x : α} (h : x ∈ l) : f x ≤ mL f l := by have := mS_mem hf h; unfold mL; omega
theorem sz_stop {α : Type} {f : α → Int} (hf : ∀ x, 0 ≤ f x) {l : List α} {i : Nat} {n m : Int} (z : α) (h : i < l.length) (hm : m = n - l.length - mS f (l.take i)) (h2 : szI (f (l.getD i z)) m < 0) (h0 : 0 ≤ m) : szI (mL f l) n = -1 := by
  apply szI_lo
  have h1 := mS_take_le hf l (i + 1)
  rw [mS_take z h] at h1
  unfold szI at h2
  unfold mL
  split at h2 <;> omega
theorem sz_go {α : Type} {f : α → Int} {l : List α} {i : Nat} {n m : Int} (z : α) (h : i < l.length) (hm : m = n - l.length - mS f (l.take i)) (h2 : 0 ≤ szI (f (l.getD i z)) m) : szI (f (l.getD i z)) m = n - l.length - mS f (l.take (i + 1)) := by
  rw [mS_take z h]
  unfold szI at h2 ⊢
  split at h2 <;> split <;> omega
theorem sz_end {α : Type} {f : α → Int} {l : List α} {i : Nat} {n m : Int} (h : l.length ≤ i) (hm : m = n - l.length - mS f (l.take i)) (h0 : 0 ≤ m) : szI (mL f l) n = m := by
  rw [List.take_of_length_le h] at hm
  rw [szI_hi (by unfold mL; omega)]
  unfold mL; omega
instance : Row OpV := { default := ⟨0, ⟨#[]⟩, 0, 0, ⟨#[]⟩⟩, sz := 5, row := fun x => [.int .i64 x.k, .str x.key, .int .i64 x.f, .int .i64 x.t, .str x.d], len := fun _ => rfl }
@[go_sem] theorem OpV.row_eq (x : OpV) : Row.row x = [.int .i64 x.k, .str x.key, .int .i64 x.f, .int .i64 x.t, .str x.d] := rfl
@[go_sem] theorem OpV.put {l : List OpV} {i : Nat} {a0 : Int} {a1 : ByteArray} {a2 a3 : Int} {a4 : ByteArray} (h : i < l.length) : setCells 5 (rows l) (i * 5) [.int .i64 a0, .str a1, .int .i64 a2, .int .i64 a3, .str a4] = rows (l.set i (⟨a0, a1, a2, a3, a4⟩ : OpV)) := rows_put rfl (⟨a0, a1, a2, a3, a4⟩ : OpV) h
@[go_sem] theorem OpV.snoc {l : List OpV} {a0 : Int} {a1 : ByteArray} {a2 a3 : Int} {a4 : ByteArray} : rows l ++ [[.int .i64 a0, .str a1, .int .i64 a2, .int .i64 a3, .str a4]] = rows (l ++ [(⟨a0, a1, a2, a3, a4⟩ : OpV)]) := rows_snoc l (⟨a0, a1, a2, a3, a4⟩ : OpV)
@[go_sem] theorem OpV.eta (x : OpV) : (⟨x.k, x.key, x.f, x.t, x.d⟩ : OpV) = x := rfl
def OpV.mz (x : OpV) : Int := (x.key.size : Int) + (x.d.size : Int)
theorem OpV.mz_nn (x : OpV) : 0 ≤ x.mz := by unfold OpV.mz; omega
def OpV.fit (x : OpV) : Prop := x.key.size ≤ 9223372036854775807 ∧ x.d.size ≤ 9223372036854775807
instance : Row AnsV := { default := ⟨0, 0, 0, ⟨#[]⟩⟩, sz := 4, row := fun x => [.int .i64 x.c, .int .i64 x.i, .int .i64 x.m, .str x.d], len := fun _ => rfl }
@[go_sem] theorem AnsV.row_eq (x : AnsV) : Row.row x = [.int .i64 x.c, .int .i64 x.i, .int .i64 x.m, .str x.d] := rfl
@[go_sem] theorem AnsV.put {l : List AnsV} {i : Nat} {a0 a1 a2 : Int} {a3 : ByteArray} (h : i < l.length) : setCells 4 (rows l) (i * 4) [.int .i64 a0, .int .i64 a1, .int .i64 a2, .str a3] = rows (l.set i (⟨a0, a1, a2, a3⟩ : AnsV)) := rows_put rfl (⟨a0, a1, a2, a3⟩ : AnsV) h
@[go_sem] theorem AnsV.snoc {l : List AnsV} {a0 a1 a2 : Int} {a3 : ByteArray} : rows l ++ [[.int .i64 a0, .int .i64 a1, .int .i64 a2, .str a3]] = rows (l ++ [(⟨a0, a1, a2, a3⟩ : AnsV)]) := rows_snoc l (⟨a0, a1, a2, a3⟩ : AnsV)
@[go_sem] theorem AnsV.eta (x : AnsV) : (⟨x.c, x.i, x.m, x.d⟩ : AnsV) = x := rfl
def AnsV.mz (x : AnsV) : Int := (x.d.size : Int)
theorem AnsV.mz_nn (x : AnsV) : 0 ≤ x.mz := by unfold AnsV.mz; omega
def AnsV.fit (x : AnsV) : Prop := x.d.size ≤ 9223372036854775807
structure LegV where
  Group : Int
  Serial : Int
  Op : OpV
  Answer : AnsV
  deriving DecidableEq
instance : Row LegV := { default := ⟨0, 0, ⟨0, ⟨#[]⟩, 0, 0, ⟨#[]⟩⟩, ⟨0, 0, 0, ⟨#[]⟩⟩⟩, sz := 11, row := fun x => [.int .i64 x.Group, .int .i64 x.Serial, .int .i64 x.Op.k, .str x.Op.key, .int .i64 x.Op.f, .int .i64 x.Op.t, .str x.Op.d, .int .i64 x.Answer.c, .int .i64 x.Answer.i, .int .i64 x.Answer.m, .str x.Answer.d], len := fun _ => rfl }
@[go_sem] theorem LegV.row_eq (x : LegV) : Row.row x = [.int .i64 x.Group, .int .i64 x.Serial, .int .i64 x.Op.k, .str x.Op.key, .int .i64 x.Op.f, .int .i64 x.Op.t, .str x.Op.d, .int .i64 x.Answer.c, .int .i64 x.Answer.i, .int .i64 x.Answer.m, .str x.Answer.d] := rfl
@[go_sem] theorem LegV.put {l : List LegV} {i : Nat} {a0 a1 a2 : Int} {a3 : ByteArray} {a4 a5 : Int} {a6 : ByteArray} {a7 a8 a9 : Int} {a10 : ByteArray} (h : i < l.length) : setCells 11 (rows l) (i * 11) [.int .i64 a0, .int .i64 a1, .int .i64 a2, .str a3, .int .i64 a4, .int .i64 a5, .str a6, .int .i64 a7, .int .i64 a8, .int .i64 a9, .str a10] = rows (l.set i (⟨a0, a1, ⟨a2, a3, a4, a5, a6⟩, ⟨a7, a8, a9, a10⟩⟩ : LegV)) := rows_put rfl (⟨a0, a1, ⟨a2, a3, a4, a5, a6⟩, ⟨a7, a8, a9, a10⟩⟩ : LegV) h
@[go_sem] theorem LegV.snoc {l : List LegV} {a0 a1 a2 : Int} {a3 : ByteArray} {a4 a5 : Int} {a6 : ByteArray} {a7 a8 a9 : Int} {a10 : ByteArray} : rows l ++ [[.int .i64 a0, .int .i64 a1, .int .i64 a2, .str a3, .int .i64 a4, .int .i64 a5, .str a6, .int .i64 a7, .int .i64 a8, .int .i64 a9, .str a10]] = rows (l ++ [(⟨a0, a1, ⟨a2, a3, a4, a5, a6⟩, ⟨a7, a8, a9, a10⟩⟩ : LegV)]) := rows_snoc l (⟨a0, a1, ⟨a2, a3, a4, a5, a6⟩, ⟨a7, a8, a9, a10⟩⟩ : LegV)
@[go_sem] theorem LegV.eta (x : LegV) : (⟨x.Group, x.Serial, x.Op, x.Answer⟩ : LegV) = x := rfl
def LegV.mz (x : LegV) : Int := (x.Op.key.size : Int) + (x.Op.d.size : Int) + (x.Answer.d.size : Int)
theorem LegV.mz_nn (x : LegV) : 0 ≤ x.mz := by unfold LegV.mz; omega
def LegV.fit (x : LegV) : Prop := x.Op.key.size ≤ 9223372036854775807 ∧ x.Op.d.size ≤ 9223372036854775807 ∧ x.Answer.d.size ≤ 9223372036854775807
structure TodoV where
  Group : Int
  Op : OpV
  deriving DecidableEq
instance : Row TodoV := { default := ⟨0, ⟨0, ⟨#[]⟩, 0, 0, ⟨#[]⟩⟩⟩, sz := 6, row := fun x => [.int .i64 x.Group, .int .i64 x.Op.k, .str x.Op.key, .int .i64 x.Op.f, .int .i64 x.Op.t, .str x.Op.d], len := fun _ => rfl }
@[go_sem] theorem TodoV.row_eq (x : TodoV) : Row.row x = [.int .i64 x.Group, .int .i64 x.Op.k, .str x.Op.key, .int .i64 x.Op.f, .int .i64 x.Op.t, .str x.Op.d] := rfl
@[go_sem] theorem TodoV.put {l : List TodoV} {i : Nat} {a0 a1 : Int} {a2 : ByteArray} {a3 a4 : Int} {a5 : ByteArray} (h : i < l.length) : setCells 6 (rows l) (i * 6) [.int .i64 a0, .int .i64 a1, .str a2, .int .i64 a3, .int .i64 a4, .str a5] = rows (l.set i (⟨a0, ⟨a1, a2, a3, a4, a5⟩⟩ : TodoV)) := rows_put rfl (⟨a0, ⟨a1, a2, a3, a4, a5⟩⟩ : TodoV) h
@[go_sem] theorem TodoV.snoc {l : List TodoV} {a0 a1 : Int} {a2 : ByteArray} {a3 a4 : Int} {a5 : ByteArray} : rows l ++ [[.int .i64 a0, .int .i64 a1, .str a2, .int .i64 a3, .int .i64 a4, .str a5]] = rows (l ++ [(⟨a0, ⟨a1, a2, a3, a4, a5⟩⟩ : TodoV)]) := rows_snoc l (⟨a0, ⟨a1, a2, a3, a4, a5⟩⟩ : TodoV)
@[go_sem] theorem TodoV.eta (x : TodoV) : (⟨x.Group, x.Op⟩ : TodoV) = x := rfl
def TodoV.mz (x : TodoV) : Int := (x.Op.key.size : Int) + (x.Op.d.size : Int)
theorem TodoV.mz_nn (x : TodoV) : 0 ≤ x.mz := by unfold TodoV.mz; omega
def TodoV.fit (x : TodoV) : Prop := x.Op.key.size ≤ 9223372036854775807 ∧ x.Op.d.size ≤ 9223372036854775807
@[go_sem] theorem rowsI_put {l : List Int} {i : Nat} {a : Int} (h : i < l.length) : setCells 1 (rowsI l) i [.int .i64 a] = rowsI (l.set i a) := by
  have := setCells_full (sz := 1) (rowsI_get h) rfl (show ([.int .i64 a] : List D).length = 1 from rfl)
  rw [Nat.mul_one] at this
  rw [this]
  simp [rowsI, List.map_set]
theorem rowsI_fill (n : Nat) (x : Int) : List.replicate n ([.int .i64 x] : List D) = rowsI (List.replicate n x) := by simp [rowsI]
attribute [push_cast] rowsI_length
structure CallV where
  Kind : Int
  Key : ByteArray
  From : Int
  To : Int
  Data : ByteArray
  deriving DecidableEq
instance : Row CallV := { default := ⟨0, ⟨#[]⟩, 0, 0, ⟨#[]⟩⟩, sz := 5, row := fun x => [.int .i64 x.Kind, .str x.Key, .int .i64 x.From, .int .i64 x.To, .str x.Data], len := fun _ => rfl }
@[go_sem] theorem CallV.row_eq (x : CallV) : Row.row x = [.int .i64 x.Kind, .str x.Key, .int .i64 x.From, .int .i64 x.To, .str x.Data] := rfl
@[go_sem] theorem CallV.put {l : List CallV} {i : Nat} {a0 : Int} {a1 : ByteArray} {a2 a3 : Int} {a4 : ByteArray} (h : i < l.length) : setCells 5 (rows l) (i * 5) [.int .i64 a0, .str a1, .int .i64 a2, .int .i64 a3, .str a4] = rows (l.set i (⟨a0, a1, a2, a3, a4⟩ : CallV)) := rows_put rfl (⟨a0, a1, a2, a3, a4⟩ : CallV) h
@[go_sem] theorem CallV.snoc {l : List CallV} {a0 : Int} {a1 : ByteArray} {a2 a3 : Int} {a4 : ByteArray} : rows l ++ [[.int .i64 a0, .str a1, .int .i64 a2, .int .i64 a3, .str a4]] = rows (l ++ [(⟨a0, a1, a2, a3, a4⟩ : CallV)]) := rows_snoc l (⟨a0, a1, a2, a3, a4⟩ : CallV)
@[go_sem] theorem CallV.eta (x : CallV) : (⟨x.Kind, x.Key, x.From, x.To, x.Data⟩ : CallV) = x := rfl
def CallV.mz (x : CallV) : Int := (x.Key.size : Int) + (x.Data.size : Int)
theorem CallV.mz_nn (x : CallV) : 0 ≤ x.mz := by unfold CallV.mz; omega
def CallV.fit (x : CallV) : Prop := x.Key.size ≤ 9223372036854775807 ∧ x.Data.size ≤ 9223372036854775807
structure RouterV where
  Id : Int
  Serials : List Int
  Busy : Bool
  Call : CallV
  Begun : Int
  Legs : List LegV
  Todo : List TodoV
  deriving DecidableEq
@[go_sem] theorem RouterV.eta (x : RouterV) : (⟨x.Id, x.Serials, x.Busy, x.Call, x.Begun, x.Legs, x.Todo⟩ : RouterV) = x := rfl
def RouterV.mz (x : RouterV) : Int := (x.Serials.length : Int) + (x.Call.Key.size : Int) + (x.Call.Data.size : Int) + mL LegV.mz x.Legs + mL TodoV.mz x.Todo
theorem RouterV.mz_nn (x : RouterV) : 0 ≤ x.mz := by unfold RouterV.mz; have := mL_nn LegV.mz_nn x.Legs; have := mL_nn TodoV.mz_nn x.Todo; omega
def RouterV.fit (x : RouterV) : Prop := x.Serials.length ≤ 9223372036854775807 ∧ x.Call.Key.size ≤ 9223372036854775807 ∧ x.Call.Data.size ≤ 9223372036854775807 ∧ x.Legs.length ≤ 9223372036854775807 ∧ (∀ e ∈ x.Legs, e.fit) ∧ x.Todo.length ≤ 9223372036854775807 ∧ (∀ e ∈ x.Todo, e.fit)
def idxF {α : Type} (p : α → Bool) : List α → Int
  | [] => -1
  | x :: t => if p x = true then 0 else if idxF p t < 0 then -1 else idxF p t + 1
def idxG {α : Type} (p : α → Bool) (l : List α) (i : Nat) : Int := if idxF p (l.drop i) < 0 then -1 else idxF p (l.drop i) + i
theorem idxG_zero {α : Type} {p : α → Bool} {l : List α} : idxG p l 0 = idxF p l := by
  unfold idxG
  rw [List.drop_zero]
  have : ∀ l : List α, -1 ≤ idxF p l := fun l => by
    induction l with
    | nil => simp [idxF]
    | cons x t ih => simp only [idxF]; split; omega; split <;> omega
  have := this l
  split <;> omega
theorem idxG_stop {α : Type} {p : α → Bool} {l : List α} {i : Nat} (z : α) (h : i < l.length) (h2 : p (l.getD i z) = true) : idxG p l i = i := by
  unfold idxG; rw [drop_getD z h, idxF, if_pos h2]; simp
theorem idxG_go {α : Type} {p : α → Bool} {l : List α} {i : Nat} (z : α) (h : i < l.length) (h2 : p (l.getD i z) = false) : idxG p l i = idxG p l (i + 1) := by
  unfold idxG; rw [drop_getD z h, idxF, h2]; simp only [Bool.false_eq_true, if_false]
  split <;> (try split) <;> (try split) <;> omega
theorem idxG_end {α : Type} {p : α → Bool} {l : List α} {i : Nat} (h : l.length ≤ i) : idxG p l i = -1 := by
  unfold idxG; rw [List.drop_of_length_le h]; simp [idxF]
theorem idxF_any {α : Type} {p : α → Bool} : ∀ l : List α, decide (0 ≤ idxF p l) = l.any p
  | [] => rfl
  | x :: t => by
    have ih := idxF_any (p := p) t
    simp only [idxF, List.any_cons]
    by_cases hx : p x = true
    · simp [hx]
    · rw [Bool.not_eq_true] at hx
      simp only [hx, Bool.false_eq_true, if_false, Bool.false_or]
      rw [← ih, decide_eq_decide]
      split <;> omega
instance g227 (g : Nat) (p : Int → Bool) [∀ x, Fs g [i64 x] True (bl (p x))] (l : List Int) : Fs 227 [⟨.one, [.ro 1 (rowsI l)]⟩, ⟨.one, [.fn (.func g) [] []]⟩] (l.length ≤ 9223372036854775807) (i64 (idxF p l)) := by
  refine F_of m227 rfl fun hyp => ?_
  repeat' (first | (with_reducible intro h; (try simp only [h]); (try simp only [HS] at h)) | ((with_reducible apply scEnd_of); exact rfl; exact rfl) | ((with_reducible apply ScW_of); rfl; rfl; trivial) | with_reducible first | apply Br_of | refine O1 ?_ | refine O2 ?_ | refine O3 ?_ | refine O4 ?_ | refine O5 ?_ | refine CI ?_ | refine CJ ?_ | refine CQp ?_ | refine CQ ?_ | simp (maxSteps := 1000000) (disch := omega) only [go_sem])
  refine LoopK_of (α := Nat) (fun q => ⟨[(8, i64 q), (7, i64 l.length), (1, ⟨.one, [.fn (.func g) [] []]⟩), (0, ⟨.one, [.ro 1 (rowsI l)]⟩)], [], [(0, ⟨.one, [.ro 1 (rowsI l)]⟩), (1, ⟨.one, [.fn (.func g) [] []]⟩)]⟩) (fun q => q ≤ l.length ∧ idxG p l q = idxF p l) (fun q => l.length - q) 0 rfl ⟨Nat.zero_le _, idxG_zero⟩ ?_
  rintro i ⟨h1, h2⟩
  repeat' (first | (with_reducible intro h; (try simp only [h]); (try simp only [HS] at h)) | ((with_reducible apply scEnd_of); exact rfl; exact rfl) | ((with_reducible apply ScW_of); rfl; rfl; trivial) | with_reducible first | apply Br_of | refine O1 ?_ | refine O2 ?_ | refine O3 ?_ | refine O4 ?_ | refine O5 ?_ | refine CI ?_ | refine CJ ?_ | refine CQp ?_ | refine CQ ?_ | simp (maxSteps := 1000000) (disch := omega) only [go_sem])
  · rw [← h2, idxG_stop 0 (by omega) (by assumption)]
  · rename_i hh _
    exact LoopQ_of (i + 1) rfl ⟨by omega, by rw [← idxG_go 0 (by omega) (by assumption)]; exact h2⟩ (by omega)
  · rw [← h2, idxG_end (by omega)]
instance g170 (g : Nat) (p : Int → Bool) [∀ x, Fs g [i64 x] True (bl (p x))] (l : List Int) : Fs 170 [⟨.one, [.ro 1 (rowsI l)]⟩, ⟨.one, [.fn (.func g) [] []]⟩] (l.length ≤ 9223372036854775807) (bl (l.any p)) := by
  refine F_of m170 rfl fun hyp => ?_
  repeat' (first | (with_reducible intro h; (try simp only [h]); (try simp only [HS] at h)) | ((with_reducible apply scEnd_of); exact rfl; exact rfl) | ((with_reducible apply ScW_of); rfl; rfl; trivial) | with_reducible first | apply Br_of | refine O1 ?_ | refine O2 ?_ | refine O3 ?_ | refine O4 ?_ | refine O5 ?_ | refine CI ?_ | refine CJ ?_ | refine CQp ?_ | refine CQ ?_ | simp (maxSteps := 1000000) (disch := omega) only [go_sem])
  rw [idxF_any]
instance g267 (g : Nat) (p : LegV → Bool) [∀ (a0 a1 a2 : Int) (a3 : ByteArray) (a4 a5 : Int) (a6 : ByteArray) (a7 a8 a9 : Int) (a10 : ByteArray), Fs g [⟨.agg, [.int .i64 a0, .int .i64 a1, .int .i64 a2, .str a3, .int .i64 a4, .int .i64 a5, .str a6, .int .i64 a7, .int .i64 a8, .int .i64 a9, .str a10]⟩] (a3.size ≤ 9223372036854775807) (bl (p (⟨a0, a1, ⟨a2, a3, a4, a5, a6⟩, ⟨a7, a8, a9, a10⟩⟩ : LegV)))] (l : List LegV) : Fs 267 [⟨.one, [.ro 11 (rows l)]⟩, ⟨.one, [.fn (.func g) [] []]⟩] (l.length ≤ 9223372036854775807 ∧ ∀ e ∈ l, e.fit) (i64 (idxF p l)) := by
  refine F_of m267 rfl fun hyp => ?_
  repeat' (first | (with_reducible intro h; (try simp only [h]); (try simp only [HS] at h)) | ((with_reducible apply scEnd_of); exact rfl; exact rfl) | ((with_reducible apply ScW_of); rfl; rfl; trivial) | with_reducible first | apply Br_of | refine O1 ?_ | refine O2 ?_ | refine O3 ?_ | refine O4 ?_ | refine O5 ?_ | refine CI ?_ | refine CJ ?_ | refine CQp ?_ | refine CQ ?_ | simp (maxSteps := 1000000) (disch := omega) only [go_sem])
  refine LoopK_of (α := Nat) (fun q => ⟨[(8, i64 q), (7, i64 l.length), (1, ⟨.one, [.fn (.func g) [] []]⟩), (0, ⟨.one, [.ro 11 (rows l)]⟩)], [], [(0, ⟨.one, [.ro 11 (rows l)]⟩), (1, ⟨.one, [.fn (.func g) [] []]⟩)]⟩) (fun q => q ≤ l.length ∧ idxG p l q = idxF p l) (fun q => l.length - q) 0 rfl ⟨Nat.zero_le _, idxG_zero⟩ ?_
  rintro i ⟨h1, h2⟩
  have hs : i < l.length → (l.getD i default).fit := fun h => hyp.2 _ (getD_mem default h)
  simp only [LegV.fit] at hs
  repeat' (first | (with_reducible intro h; (try simp only [h]); (try simp only [HS] at h)) | ((with_reducible apply scEnd_of); exact rfl; exact rfl) | ((with_reducible apply ScW_of); rfl; rfl; trivial) | with_reducible first | apply Br_of | refine O1 ?_ | refine O2 ?_ | refine O3 ?_ | refine O4 ?_ | refine O5 ?_ | refine CI ?_ | refine CJ ?_ | refine CQp ?_ | refine CQ ?_ | simp (maxSteps := 1000000) (disch := omega) only [go_sem])
  · rw [← h2, idxG_stop default (by omega) (by assumption)]
  · rename_i hh _
    exact LoopQ_of (i + 1) rfl ⟨by omega, by rw [← idxG_go default (by omega) (by assumption)]; exact h2⟩ (by omega)
  · rw [← h2, idxG_end (by omega)]
instance g228 (g : Nat) (p : LegV → Bool) [∀ (a0 a1 a2 : Int) (a3 : ByteArray) (a4 a5 : Int) (a6 : ByteArray) (a7 a8 a9 : Int) (a10 : ByteArray), Fs g [⟨.agg, [.int .i64 a0, .int .i64 a1, .int .i64 a2, .str a3, .int .i64 a4, .int .i64 a5, .str a6, .int .i64 a7, .int .i64 a8, .int .i64 a9, .str a10]⟩] (a3.size ≤ 9223372036854775807) (bl (p (⟨a0, a1, ⟨a2, a3, a4, a5, a6⟩, ⟨a7, a8, a9, a10⟩⟩ : LegV)))] (l : List LegV) : Fs 228 [⟨.one, [.ro 11 (rows l)]⟩, ⟨.one, [.fn (.func g) [] []]⟩] (l.length ≤ 9223372036854775807 ∧ ∀ e ∈ l, e.fit) (bl (l.any p)) := by
  refine F_of m228 rfl fun hyp => ?_
  repeat' (first | (with_reducible intro h; (try simp only [h]); (try simp only [HS] at h)) | ((with_reducible apply scEnd_of); exact rfl; exact rfl) | ((with_reducible apply ScW_of); rfl; rfl; trivial) | with_reducible first | apply Br_of | refine O1 ?_ | refine O2 ?_ | refine O3 ?_ | refine O4 ?_ | refine O5 ?_ | refine CI ?_ | refine CJ ?_ | refine CQp ?_ | refine CQ ?_ | simp (maxSteps := 1000000) (disch := omega) only [go_sem])
  rw [idxF_any]
noncomputable def LegV.okB (x : LegV) : Bool := (decide (0 ≤ x.Group) && decide (x.Group ≤ 2)) && ((decide (1 ≤ x.Serial) && decide (x.Serial ≤ 1000000)) && (opB x.Op.k x.Op.key x.Op.f x.Op.t x.Op.d && ansB x.Answer.c x.Answer.i x.Answer.m x.Answer.d))
noncomputable def LegV.noB (x : LegV) : Bool := !x.okB
noncomputable def TodoV.okB (x : TodoV) : Bool := (decide (0 ≤ x.Group) && decide (x.Group ≤ 2)) && opB x.Op.k x.Op.key x.Op.f x.Op.t x.Op.d
def serB (l : List Int) : Bool := l.all fun n => decide (0 ≤ n) && decide (n ≤ 1000000)
def todoP (ser : List Int) (legs : List LegV) (todo : List TodoV) : Prop := todo ≠ [] ∧ todo.length + legs.length ≤ 3 ∧ (legs = [] → todo.length = 1) ∧ (∀ x ∈ todo, x.okB = true ∧ (x.Group = 0 ↔ legs = [])) ∧ 1 ≤ ser.getD (todo.getD 0 default).Group.toNat 0
def CallV.zero : CallV := ⟨0, ⟨#[]⟩, 0, 0, ⟨#[]⟩⟩
def rtP (id : Int) (ser : List Int) (busy : Bool) (c : CallV) (begun : Int) (legs : List LegV) (todo : List TodoV) : Prop :=
  (1 ≤ id ∧ id ≤ 4) ∧ ser.length = 3 ∧ (0 ≤ begun ∧ begun ≤ 1000000) ∧ serB ser = true ∧
  ((busy = false ∧ c = CallV.zero ∧ begun = 0 ∧ legs = [] ∧ todo = []) ∨
   (busy = true ∧ callB c.Kind c.Key c.From c.To c.Data = true ∧ legs.all LegV.okB = true ∧ todoP ser legs todo))
noncomputable def ifB (p : Prop) : Bool := @decide p (Classical.propDecidable p)
theorem ifB_t {p : Prop} (h : p) : ifB p = true := by unfold ifB; simp [h]
theorem ifB_f {p : Prop} (h : ¬p) : ifB p = false := by unfold ifB; simp [h]
theorem ifB_iff {p : Prop} : ifB p = true ↔ p := by unfold ifB; simp
instance g229 (a0 a1 a2 : Int) (a3 : ByteArray) (a4 a5 : Int) (a6 : ByteArray) (a7 a8 a9 : Int) (a10 : ByteArray) : Fs 229 [⟨.agg, [.int .i64 a0, .int .i64 a1, .int .i64 a2, .str a3, .int .i64 a4, .int .i64 a5, .str a6, .int .i64 a7, .int .i64 a8, .int .i64 a9, .str a10]⟩] (a3.size ≤ 9223372036854775807) (bl (LegV.noB (⟨a0, a1, ⟨a2, a3, a4, a5, a6⟩, ⟨a7, a8, a9, a10⟩⟩ : LegV))) := by
  refine F_of m229 rfl fun hyp => ?_
  repeat' (first | (with_reducible intro h; (try simp only [h]); (try simp only [HS] at h)) | ((with_reducible apply scEnd_of); exact rfl; exact rfl) | ((with_reducible apply ScW_of); rfl; rfl; trivial) | with_reducible first | apply Br_of | refine O1 ?_ | refine O2 ?_ | refine O3 ?_ | refine O4 ?_ | refine O5 ?_ | refine CI ?_ | refine CJ ?_ | refine CQp ?_ | refine CQ ?_ | simp (maxSteps := 1000000) (disch := omega) only [go_sem])
  all_goals (simp only [LegV.noB, LegV.okB]; simp_all [Bool.or_assoc])
instance g126 (a0 a1 a2 : Int) (a3 : ByteArray) (a4 a5 : Int) (a6 : ByteArray) (a7 a8 a9 : Int) (a10 : ByteArray) : Fs 126 [⟨.agg, [.int .i64 a0, .int .i64 a1, .int .i64 a2, .str a3, .int .i64 a4, .int .i64 a5, .str a6, .int .i64 a7, .int .i64 a8, .int .i64 a9, .str a10]⟩] True (bl (LegV.okB (⟨a0, a1, ⟨a2, a3, a4, a5, a6⟩, ⟨a7, a8, a9, a10⟩⟩ : LegV))) := by
  refine F_of m126 rfl fun hyp => ?_
  repeat' (first | (with_reducible intro h; (try simp only [h]); (try simp only [HS] at h)) | ((with_reducible apply scEnd_of); exact rfl; exact rfl) | ((with_reducible apply ScW_of); rfl; rfl; trivial) | with_reducible first | apply Br_of | refine O1 ?_ | refine O2 ?_ | refine O3 ?_ | refine O4 ?_ | refine O5 ?_ | refine CI ?_ | refine CJ ?_ | refine CQp ?_ | refine CQ ?_ | simp (maxSteps := 1000000) (disch := omega) only [go_sem])
  all_goals (simp only [LegV.okB]; simp_all [Bool.and_assoc])
theorem any_no {l : List LegV} : l.any LegV.noB = !l.all LegV.okB := by
  induction l with
  | nil => rfl
  | cons x t ih => simp [ih, LegV.noB]
instance g172 (l : List LegV) : Fs 172 [⟨.one, [.ro 11 (rows l)]⟩] (l.length ≤ 9223372036854775807 ∧ ∀ e ∈ l, e.fit) (bl (decide (l.length ≤ 3) && l.all LegV.okB)) := by
  refine F_of m172 rfl fun hyp => ?_
  obtain ⟨q0, q1⟩ := id hyp
  repeat' (first | (with_reducible intro h; (try simp only [h]); (try simp only [HS] at h)) | ((with_reducible apply scEnd_of); exact rfl; exact rfl) | ((with_reducible apply ScW_of); rfl; rfl; trivial) | with_reducible first | apply Br_of | refine O1 ?_ | refine O2 ?_ | refine O3 ?_ | refine O4 ?_ | refine O5 ?_ | refine CI ?_ | refine CJ ?_ | refine CQp ?_ | refine CQ ?_ | simp (maxSteps := 1000000) (disch := omega) only [go_sem])
  rw [any_no, Bool.not_not]
  congr 5
  exact decide_eq_decide.2 (by omega)
def tdOk (legs : List LegV) (x : TodoV) : Prop := x.okB = true ∧ (x.Group = 0 ↔ legs = [])
theorem tdOk_take {legs : List LegV} {l : List TodoV} {i : Nat} (h : i < l.length) (h1 : ∀ x ∈ l.take i, tdOk legs x) (h2 : tdOk legs (l.getD i default)) : ∀ x ∈ l.take (i + 1), tdOk legs x := by
  rw [take_snocZ default h]
  intro x hx
  rcases List.mem_append.1 hx with hx | hx
  · exact h1 x hx
  · rw [List.mem_singleton] at hx; subst hx; exact h2
theorem nil_iff {α : Type} {l : List α} : (l = []) ↔ ((l.length : Int) = 0) := by cases l <;> simp <;> omega
theorem TodoV.ok_grp {x : TodoV} (h : x.okB = true) : 0 ≤ x.Group ∧ x.Group ≤ 2 := by
  unfold TodoV.okB at h
  simp only [Bool.and_eq_true, decide_eq_true_eq] at h
  exact h.1
theorem todoP_no1 {ser : List Int} {legs : List LegV} {todo : List TodoV} (h : ((todo.length : Int) = 0 ∨ 3 < (todo.length : Int) + legs.length) ∨ ((legs.length : Int) = 0 ∧ ¬(todo.length : Int) = 1)) : ¬todoP ser legs todo := by
  rintro ⟨h1, h2, h3, _⟩
  rw [ne_eq, nil_iff] at h1
  rw [nil_iff] at h3
  omega
theorem bne_ii {p q : Prop} [Decidable p] [Decidable q] : (decide p != decide q) = false ↔ (p ↔ q) := by
  by_cases hp : p <;> by_cases hq : q <;> simp [hp, hq]
theorem bne_it {p q : Prop} [Decidable p] [Decidable q] : (decide p != decide q) = true ↔ ¬(p ↔ q) := by
  by_cases hp : p <;> by_cases hq : q <;> simp [hp, hq]
theorem tdOk_iff {legs : List LegV} {x : TodoV} : tdOk legs x ↔ ((0 ≤ x.Group ∧ x.Group ≤ 2) ∧ opB x.Op.k x.Op.key x.Op.f x.Op.t x.Op.d = true) ∧ (x.Group = 0 ↔ (legs.length : Int) = 0) := by
  unfold tdOk TodoV.okB
  rw [nil_iff]
  simp only [Bool.and_eq_true, decide_eq_true_eq]
theorem ifB_dec {p q : Prop} [Decidable q] (h : p ↔ q) : ifB p = decide q := by
  by_cases hq : q
  · rw [ifB_t (h.2 hq), decide_eq_true hq]
  · rw [ifB_f (fun hp => hq (h.1 hp)), decide_eq_false hq]
theorem todoP_last {ser : List Int} {legs : List LegV} {todo : List TodoV} (h : (¬(todo.length : Int) = 0 ∧ (todo.length : Int) + legs.length ≤ 3) ∧ (¬(legs.length : Int) = 0 ∨ (todo.length : Int) = 1)) (h2 : ∀ x ∈ todo, tdOk legs x) :
    todoP ser legs todo ↔ 1 ≤ ser.getD (todo.getD 0 default).Group.toNat 0 := by
  unfold todoP
  rw [ne_eq, nil_iff, nil_iff]
  exact ⟨fun hh => hh.2.2.2.2, fun hh => ⟨by omega, by omega, by omega, fun x hx => by have := h2 x hx; unfold tdOk at this; rwa [nil_iff] at this, hh⟩⟩
instance g173 (a0 : Int) (a1 : List Int) (a2 : Bool) (a3 : Int) (a4 : ByteArray) (a5 a6 : Int) (a7 : ByteArray) (a8 : Int) (a9 : List LegV) (a10 : List TodoV) : Fs 173 [⟨.agg, [.int .i64 a0, .ro 1 (rowsI a1), .bool a2, .int .i64 a3, .str a4, .int .i64 a5, .int .i64 a6, .str a7, .int .i64 a8, .ro 11 (rows a9), .ro 6 (rows a10)]⟩] (a1.length = 3 ∧ a9.length ≤ 1048576 ∧ a10.length ≤ 1048576 ∧ ∀ e ∈ a10, e.fit) (bl (ifB (todoP a1 a9 a10))) := by
  refine F_of m173 rfl fun hyp => ?_
  obtain ⟨q0, q1, q2, q3⟩ := id hyp
  repeat' (first | (with_reducible intro h; (try simp only [h]); (try simp only [HS] at h)) | ((with_reducible apply scEnd_of); exact rfl; exact rfl) | ((with_reducible apply ScW_of); rfl; rfl; trivial) | with_reducible first | apply Br_of | refine O1 ?_ | refine O2 ?_ | refine O3 ?_ | refine O4 ?_ | refine O5 ?_ | refine CI ?_ | refine CJ ?_ | refine CQp ?_ | refine CQ ?_ | simp (maxSteps := 1000000) (disch := omega) only [go_sem])
  · rw [ifB_f (todoP_no1 h)]
  · have hl := h
    refine LoopK_of (α := Nat) (fun p => ⟨[(32, i64 p), (31, i64 a10.length), (30, ⟨.one, [.ro 6 (rows a10)]⟩), (29, ⟨.one, [.ptr 1 10]⟩), (1, ⟨.one, [.ptr 1 0]⟩)], [(1, [.int .i64 a0, .ro 1 (rowsI a1), .bool a2, .int .i64 a3, .str a4, .int .i64 a5, .int .i64 a6, .str a7, .int .i64 a8, .ro 11 (rows a9), .ro 6 (rows a10)])], [(0, ⟨.agg, [.int .i64 a0, .ro 1 (rowsI a1), .bool a2, .int .i64 a3, .str a4, .int .i64 a5, .int .i64 a6, .str a7, .int .i64 a8, .ro 11 (rows a9), .ro 6 (rows a10)]⟩)]⟩) (fun p => p ≤ a10.length ∧ ∀ x ∈ a10.take p, tdOk a9 x) (fun p => a10.length - p) 0 rfl ⟨Nat.zero_le _, by simp⟩ ?_
    rintro i ⟨h1, h2⟩
    by_cases hi : i < a10.length
    · have hs := q3 _ (getD_mem default hi)
      simp only [TodoV.fit] at hs
      repeat' (first | (with_reducible intro h; (try simp only [h]); (try simp only [HS] at h)) | ((with_reducible apply scEnd_of); exact rfl; exact rfl) | ((with_reducible apply ScW_of); rfl; rfl; trivial) | with_reducible first | apply Br_of | refine O1 ?_ | refine O2 ?_ | refine O3 ?_ | refine O4 ?_ | refine O5 ?_ | refine CI ?_ | refine CJ ?_ | refine CQp ?_ | refine CQ ?_ | simp (maxSteps := 1000000) (disch := omega) only [go_sem])
      all_goals (try (exfalso; omega))
      · rw [ifB_f]; intro hp; have := tdOk_iff.1 (hp.2.2.2.1 _ (getD_mem default hi)); rcases h with (h | h) | h
        · omega
        · rw [h] at this; simp at this
        · exact bne_it.1 h this.2
      · exact LoopQ_of (i + 1) rfl ⟨by omega, tdOk_take hi h2 (tdOk_iff.2 ⟨h.1, bne_ii.1 h.2⟩)⟩ (by omega)
    · have hall : ∀ x ∈ a10, tdOk a9 x := by rw [List.take_of_length_le (by omega)] at h2; exact h2
      have hg := TodoV.ok_grp (hall _ (getD_mem default (show 0 < a10.length by omega))).1
      repeat' (first | (with_reducible intro h; (try simp only [h]); (try simp only [HS] at h)) | ((with_reducible apply scEnd_of); exact rfl; exact rfl) | ((with_reducible apply ScW_of); rfl; rfl; trivial) | with_reducible first | apply Br_of | refine O1 ?_ | refine O2 ?_ | refine O3 ?_ | refine O4 ?_ | refine O5 ?_ | refine CI ?_ | refine CJ ?_ | refine CQp ?_ | refine CQ ?_ | simp (maxSteps := 1000000) (disch := omega) only [go_sem])
      all_goals (try (exfalso; omega))
      rw [ifB_dec (todoP_last hl hall)]
instance g171 (x : Int) : Fs 171 [i64 x] True (bl (!(decide (0 ≤ x) && decide (x ≤ 1000000)))) := by
  refine F_of m171 rfl fun hyp => ?_
  repeat' (first | (with_reducible intro h; (try simp only [h]); (try simp only [HS] at h)) | ((with_reducible apply scEnd_of); exact rfl; exact rfl) | ((with_reducible apply ScW_of); rfl; rfl; trivial) | with_reducible first | apply Br_of | refine O1 ?_ | refine O2 ?_ | refine O3 ?_ | refine O4 ?_ | refine O5 ?_ | refine CI ?_ | refine CJ ?_ | refine CQp ?_ | refine CQ ?_ | simp (maxSteps := 1000000) (disch := omega) only [go_sem])
theorem any_ser : ∀ l : List Int, (l.any fun x => !(decide (0 ≤ x) && decide (x ≤ 1000000))) = !serB l
  | [] => rfl
  | x :: t => by rw [List.any_cons, any_ser t]; simp [serB]
theorem rtP_idle {id : Int} {ser : List Int} {c : CallV} {b : Int} {legs : List LegV} {todo : List TodoV} (h1 : (1 ≤ id ∧ id ≤ 4) ∧ (ser.length : Int) = 3) (h2 : serB ser = true) (h3 : 0 ≤ b ∧ b ≤ 1000000) :
    rtP id ser false c b legs todo ↔ c = CallV.zero ∧ b = 0 ∧ legs = [] ∧ todo = [] := by
  unfold rtP
  exact ⟨fun h => by rcases h.2.2.2.2 with h | h; exact h.2; exact absurd h.1 (by simp), fun h => ⟨h1.1, by omega, h3, h2, .inl ⟨rfl, h⟩⟩⟩
theorem rtP_busy {id : Int} {ser : List Int} {c : CallV} {b : Int} {legs : List LegV} {todo : List TodoV} (h1 : (1 ≤ id ∧ id ≤ 4) ∧ (ser.length : Int) = 3) (h2 : serB ser = true) (h3 : 0 ≤ b ∧ b ≤ 1000000) :
    rtP id ser true c b legs todo ↔ callB c.Kind c.Key c.From c.To c.Data = true ∧ legs.all LegV.okB = true ∧ todoP ser legs todo := by
  unfold rtP
  exact ⟨fun h => by rcases h.2.2.2.2 with h | h; exact absurd h.1 (by simp); exact h.2, fun h => ⟨h1.1, by omega, h3, h2, .inr ⟨rfl, h⟩⟩⟩
instance g83 (a0 : Int) (a1 : List Int) (a2 : Bool) (a3 : Int) (a4 : ByteArray) (a5 a6 : Int) (a7 : ByteArray) (a8 : Int) (a9 : List LegV) (a10 : List TodoV) : Fs 83 [⟨.agg, [.int .i64 a0, .ro 1 (rowsI a1), .bool a2, .int .i64 a3, .str a4, .int .i64 a5, .int .i64 a6, .str a7, .int .i64 a8, .ro 11 (rows a9), .ro 6 (rows a10)]⟩] (a1.length ≤ 9223372036854775807 ∧ a4.size ≤ 9223372036854775807 ∧ a9.length ≤ 1048576 ∧ a10.length ≤ 1048576 ∧ (∀ e ∈ a9, e.fit) ∧ (∀ e ∈ a10, e.fit)) (bl (ifB (rtP a0 a1 a2 ⟨a3, a4, a5, a6, a7⟩ a8 a9 a10))) := by
  refine F_of m83 rfl fun hyp => ?_
  obtain ⟨q0, q1, q2, q3, q4, q5⟩ := id hyp
  repeat' (first | (with_reducible intro h; (try simp only [h]); (try simp only [HS] at h)) | ((with_reducible apply scEnd_of); exact rfl; exact rfl) | ((with_reducible apply ScW_of); rfl; rfl; trivial) | with_reducible first | apply Br_of | refine O1 ?_ | refine O2 ?_ | refine O3 ?_ | refine O4 ?_ | refine O5 ?_ | refine CI ?_ | refine CJ ?_ | refine CQp ?_ | refine CQ ?_ | simp (maxSteps := 1000000) (disch := omega) only [go_sem])
  · rw [any_ser] at h; rw [ifB_f]; rintro ⟨h1, h2, h3, h4, _⟩; simp only [h4, Bool.not_true, Bool.false_eq_true, or_false] at h; omega
  · rename_i hh
    rw [any_ser, Bool.not_eq_false'] at hh
    subst h
    simp only [Prod.mk.injEq, SV.mk.injEq, List.cons.injEq, Cell.bool.injEq, and_true, true_and]
    rw [Bool.eq_iff_iff, ifB_iff, rtP_idle hh.1.1 hh.1.2 hh.2]
    simp only [CallV.zero, CallV.mk.injEq, nil_iff, Bool.and_eq_true, decide_eq_true_eq]
    grind
  · rename_i hh
    rw [any_ser, Bool.not_eq_false'] at hh
    subst h
    simp only [Prod.mk.injEq, SV.mk.injEq, List.cons.injEq, Cell.bool.injEq, and_true, true_and]
    rw [Bool.eq_iff_iff, ifB_iff, rtP_busy hh.1.1 hh.1.2 hh.2]
    simp only [Bool.and_eq_true, decide_eq_true_eq, ifB_iff]
    exact ⟨fun h => ⟨h.1.1, h.1.2.2, h.2⟩, fun h => ⟨⟨h.1, by have := h.2.2.2.1; omega, h.2.1⟩, h.2.2⟩⟩
theorem serB_mem {l : List Int} (h : serB l = true) {i : Nat} (hi : i < l.length) : 0 ≤ l.getD i 0 ∧ l.getD i 0 ≤ 1000000 := by
  unfold serB at h
  rw [List.all_eq_true] at h
  have := h _ (getD_mem 0 hi)
  simpa using this
theorem serB_step {l : List Int} {i : Nat} (hi : i < l.length) (h : serB (l.take i) = true) (h2 : 0 ≤ l.getD i 0 ∧ l.getD i 0 ≤ 1000000) : serB (l.take (i + 1)) = true := by
  rw [take_snocZ 0 hi]
  unfold serB at h ⊢
  rw [List.all_append, h]
  simp only [List.all_cons, List.all_nil, Bool.and_true, Bool.true_and, Bool.and_eq_true, decide_eq_true_eq]
  exact h2
instance g43 (a0 : Int) (a1 : List Int) (a2 : Bool) (a3 : Int) (a4 : ByteArray) (a5 a6 : Int) (a7 : ByteArray) (a8 : Int) (a9 : List LegV) (a10 : List TodoV) : Fs 43 [⟨.agg, [.int .i64 a0, .ro 1 (rowsI a1), .bool a2, .int .i64 a3, .str a4, .int .i64 a5, .int .i64 a6, .str a7, .int .i64 a8, .ro 11 (rows a9), .ro 6 (rows a10)]⟩] (a1.length ≤ 9223372036854775807 ∧ a4.size ≤ 9223372036854775807 ∧ a9.length ≤ 1048576 ∧ a10.length ≤ 1048576 ∧ (∀ e ∈ a9, e.fit) ∧ (∀ e ∈ a10, e.fit)) (bl (ifB (rtP a0 a1 a2 ⟨a3, a4, a5, a6, a7⟩ a8 a9 a10))) := by
  refine F_of m43 rfl fun hyp => ?_
  obtain ⟨q0, q1, q2, q3, q4, q5⟩ := id hyp
  repeat' (first | (with_reducible intro h; (try simp only [h]); (try simp only [HS] at h)) | ((with_reducible apply scEnd_of); exact rfl; exact rfl) | ((with_reducible apply ScW_of); rfl; rfl; trivial) | with_reducible first | apply Br_of | refine O1 ?_ | refine O2 ?_ | refine O3 ?_ | refine O4 ?_ | refine O5 ?_ | refine CI ?_ | refine CJ ?_ | refine CQp ?_ | refine CQ ?_ | simp (maxSteps := 1000000) (disch := omega) only [go_sem])
  · rw [ifB_f]; rintro ⟨h1, h2, h3, h4, _⟩; omega
  · have hh := h
    refine LoopK_of (α := Nat) (fun p => ⟨[(3, i64 p), (1, ⟨.one, [.ptr 1 0]⟩)], [(1, [.int .i64 a0, .ro 1 (rowsI a1), .bool a2, .int .i64 a3, .str a4, .int .i64 a5, .int .i64 a6, .str a7, .int .i64 a8, .ro 11 (rows a9), .ro 6 (rows a10)])], [(0, ⟨.agg, [.int .i64 a0, .ro 1 (rowsI a1), .bool a2, .int .i64 a3, .str a4, .int .i64 a5, .int .i64 a6, .str a7, .int .i64 a8, .ro 11 (rows a9), .ro 6 (rows a10)]⟩)]⟩) (fun p => p ≤ a1.length ∧ serB (a1.take p) = true) (fun p => a1.length - p) 0 rfl ⟨Nat.zero_le _, rfl⟩ ?_
    rintro i ⟨h1, h2⟩
    by_cases hi : i < a1.length
    · repeat' (first | (with_reducible intro h; (try simp only [h]); (try simp only [HS] at h)) | ((with_reducible apply scEnd_of); exact rfl; exact rfl) | ((with_reducible apply ScW_of); rfl; rfl; trivial) | with_reducible first | apply Br_of | refine O1 ?_ | refine O2 ?_ | refine O3 ?_ | refine O4 ?_ | refine O5 ?_ | refine CI ?_ | refine CJ ?_ | refine CQp ?_ | refine CQ ?_ | simp (maxSteps := 1000000) (disch := omega) only [go_sem])
      all_goals (try (exfalso; omega))
      · rw [ifB_f]; rintro ⟨_, _, _, h4, _⟩; have := serB_mem h4 hi; omega
      · exact LoopQ_of (i + 1) rfl ⟨by omega, serB_step hi h2 (by omega)⟩ (by omega)
    · have hser : serB a1 = true := by rw [List.take_of_length_le (by omega)] at h2; exact h2
      repeat' (first | (with_reducible intro h; (try simp only [h]); (try simp only [HS] at h)) | ((with_reducible apply scEnd_of); exact rfl; exact rfl) | ((with_reducible apply ScW_of); rfl; rfl; trivial) | with_reducible first | apply Br_of | refine O1 ?_ | refine O2 ?_ | refine O3 ?_ | refine O4 ?_ | refine O5 ?_ | refine CI ?_ | refine CJ ?_ | refine CQp ?_ | refine CQ ?_ | simp (maxSteps := 1000000) (disch := omega) only [go_sem])
      all_goals (try (exfalso; omega))
      · subst h
        simp only [Prod.mk.injEq, SV.mk.injEq, List.cons.injEq, Cell.bool.injEq, and_true, true_and]
        rw [Bool.eq_iff_iff, ifB_iff, rtP_idle hh.1 hser hh.2]
        simp only [CallV.zero, CallV.mk.injEq, nil_iff, Bool.and_eq_true, decide_eq_true_eq]
        grind
      · have hq := h; obtain rfl : a2 = true := by assumption
        rw [ifB_f]; rw [rtP_busy hh.1 hser hh.2]; rintro ⟨c1, c2, hp⟩
        simp only at c1
        have p0 := hp.1; have p1 := hp.2.1; have p2 := hp.2.2.1; have p3 := hp.2.2.2.1
        rw [ne_eq, nil_iff] at p0; rw [nil_iff] at p2
        rcases hq with (h | h) | h
        · rw [c1] at h; simp at h
        · omega
        · omega
      · have hq := h; obtain rfl : a2 = true := by assumption
        rw [ifB_f]; rw [rtP_busy hh.1 hser hh.2]; rintro ⟨c1, c2, hp⟩
        simp only at c1
        have p0 := hp.1; have p1 := hp.2.1; have p2 := hp.2.2.1; have p3 := hp.2.2.2.1
        rw [ne_eq, nil_iff] at p0; rw [nil_iff] at p2
        have := (p3 _ (getD_mem default (show 0 < a10.length by omega))).2
        rw [nil_iff] at this
        omega
      · have ht := h
        have hf : (callB a3 a4 a5 a6 a7 = true ∧ ¬(a10.length : Int) = 0) ∧ (a10.length : Int) + a9.length ≤ 3 := by assumption
        have hc := hf.1.1
        have hl : ¬(a10.length : Int) = 0 ∧ (a10.length : Int) + a9.length ≤ 3 := ⟨hf.1.2, hf.2⟩
        refine LoopK_of (α := Nat) (fun p => ⟨[(4, i64 p), (1, ⟨.one, [.ptr 1 0]⟩)], [(1, [.int .i64 a0, .ro 1 (rowsI a1), .bool a2, .int .i64 a3, .str a4, .int .i64 a5, .int .i64 a6, .str a7, .int .i64 a8, .ro 11 (rows a9), .ro 6 (rows a10)])], [(0, ⟨.agg, [.int .i64 a0, .ro 1 (rowsI a1), .bool a2, .int .i64 a3, .str a4, .int .i64 a5, .int .i64 a6, .str a7, .int .i64 a8, .ro 11 (rows a9), .ro 6 (rows a10)]⟩)]⟩) (fun p => p ≤ a10.length ∧ ∀ x ∈ a10.take p, tdOk a9 x) (fun p => a10.length - p) 0 rfl ⟨Nat.zero_le _, by simp⟩ ?_
        rintro j ⟨j1, j2⟩
        by_cases hj : j < a10.length
        · have hs := q5 _ (getD_mem default hj)
          simp only [TodoV.fit] at hs
          repeat' (first | (with_reducible intro h; (try simp only [h]); (try simp only [HS] at h)) | ((with_reducible apply scEnd_of); exact rfl; exact rfl) | ((with_reducible apply ScW_of); rfl; rfl; trivial) | with_reducible first | apply Br_of | refine O1 ?_ | refine O2 ?_ | refine O3 ?_ | refine O4 ?_ | refine O5 ?_ | refine CI ?_ | refine CJ ?_ | refine CQp ?_ | refine CQ ?_ | simp (maxSteps := 1000000) (disch := omega) only [go_sem])
          all_goals (try (exfalso; omega))
          · have hq := h; obtain rfl : a2 = true := by assumption
            rw [ifB_f]; rw [rtP_busy hh.1 hser hh.2]; rintro ⟨c1, c2, hp⟩
            simp only at c1
            have p0 := hp.1; have p1 := hp.2.1; have p2 := hp.2.2.1; have p3 := hp.2.2.2.1
            rw [ne_eq, nil_iff] at p0; rw [nil_iff] at p2
            have := tdOk_iff.1 (p3 _ (getD_mem default hj))
            rcases hq with (h | h) | h
            · omega
            · omega
            · rw [h] at this; simp at this
          · refine LoopQ_of (j + 1) rfl ⟨by omega, tdOk_take hj j2 (tdOk_iff.2 ⟨⟨h.1.1, h.2⟩, ?_⟩)⟩ (by omega)
            have : (a10.length : Int) = 1 → a10.getD j default = a10.getD 0 default := fun hq => by rw [show j = 0 by omega]
            have h12 := h.1.2
            constructor
            · omega
            · intro hz; rcases ht with ht | ht
              · omega
              · rw [this ht.1]; exact ht.2
        · have hall : ∀ x ∈ a10, tdOk a9 x := by rw [List.take_of_length_le (by omega)] at j2; exact j2
          have hg := TodoV.ok_grp (hall _ (getD_mem default (show 0 < a10.length by omega))).1
          repeat' (first | (with_reducible intro h; (try simp only [h]); (try simp only [HS] at h)) | ((with_reducible apply scEnd_of); exact rfl; exact rfl) | ((with_reducible apply ScW_of); rfl; rfl; trivial) | with_reducible first | apply Br_of | refine O1 ?_ | refine O2 ?_ | refine O3 ?_ | refine O4 ?_ | refine O5 ?_ | refine CI ?_ | refine CJ ?_ | refine CQp ?_ | refine CQ ?_ | simp (maxSteps := 1000000) (disch := omega) only [go_sem])
          all_goals (try (exfalso; omega))
          refine LoopK_of (α := Nat) (fun p => ⟨[(5, i64 p), (1, ⟨.one, [.ptr 1 0]⟩)], [(1, [.int .i64 a0, .ro 1 (rowsI a1), .bool a2, .int .i64 a3, .str a4, .int .i64 a5, .int .i64 a6, .str a7, .int .i64 a8, .ro 11 (rows a9), .ro 6 (rows a10)])], [(0, ⟨.agg, [.int .i64 a0, .ro 1 (rowsI a1), .bool a2, .int .i64 a3, .str a4, .int .i64 a5, .int .i64 a6, .str a7, .int .i64 a8, .ro 11 (rows a9), .ro 6 (rows a10)]⟩)]⟩) (fun p => p ≤ a9.length ∧ (a9.take p).all LegV.okB = true) (fun p => a9.length - p) 0 rfl ⟨Nat.zero_le _, rfl⟩ ?_
          rintro k ⟨k1, k2⟩
          by_cases hk : k < a9.length
          · have hs := q4 _ (getD_mem default hk)
            simp only [LegV.fit] at hs
            repeat' (first | (with_reducible intro h; (try simp only [h]); (try simp only [HS] at h)) | ((with_reducible apply scEnd_of); exact rfl; exact rfl) | ((with_reducible apply ScW_of); rfl; rfl; trivial) | with_reducible first | apply Br_of | refine O1 ?_ | refine O2 ?_ | refine O3 ?_ | refine O4 ?_ | refine O5 ?_ | refine CI ?_ | refine CJ ?_ | refine CQp ?_ | refine CQ ?_ | simp (maxSteps := 1000000) (disch := omega) only [go_sem])
            all_goals (try (exfalso; omega))
            · have hq := h; obtain rfl : a2 = true := by assumption
              rw [ifB_f]; rw [rtP_busy hh.1 hser hh.2]; rintro ⟨c1, c2, hp⟩
              simp only at c1
              have p0 := hp.1; have p1 := hp.2.1; have p2 := hp.2.2.1; have p3 := hp.2.2.2.1
              rw [ne_eq, nil_iff] at p0; rw [nil_iff] at p2
              rw [List.all_eq_true] at c2
              have := c2 _ (getD_mem default hk)
              rw [hq] at this; simp at this
            · exact LoopQ_of (k + 1) rfl ⟨by omega, by rw [take_snocZ default hk, List.all_append, k2]; simpa using h⟩ (by omega)
          · have hlegs : a9.all LegV.okB = true := by rw [List.take_of_length_le (by omega)] at k2; exact k2
            repeat' (first | (with_reducible intro h; (try simp only [h]); (try simp only [HS] at h)) | ((with_reducible apply scEnd_of); exact rfl; exact rfl) | ((with_reducible apply ScW_of); rfl; rfl; trivial) | with_reducible first | apply Br_of | refine O1 ?_ | refine O2 ?_ | refine O3 ?_ | refine O4 ?_ | refine O5 ?_ | refine CI ?_ | refine CJ ?_ | refine CQp ?_ | refine CQ ?_ | simp (maxSteps := 1000000) (disch := omega) only [go_sem])
            all_goals (try (exfalso; omega))
            obtain rfl : a2 = true := by assumption
            simp only [Prod.mk.injEq, SV.mk.injEq, List.cons.injEq, Cell.bool.injEq, and_true, true_and]
            rw [Bool.eq_iff_iff, ifB_iff, rtP_busy hh.1 hser hh.2, todoP_last ⟨hl, by omega⟩ hall, decide_eq_true_eq]
            exact ⟨fun h => ⟨hc, hlegs, h⟩, fun h => h.2.2⟩
theorem mL_len {α : Type} {f : α → Int} (hf : ∀ x, 0 ≤ f x) (l : List α) : (l.length : Int) ≤ mL f l := by have := mS_nn hf l; unfold mL; omega
theorem sansR_eq (s : ByteArray) : sansR s = if finV s.size (varsO 3 (bytes s)) < 0 then none
  else some ⟨(varsV 3 (bytes s)).getD 0 0, (varsV 3 (bytes s)).getD 1 0, (varsV 3 (bytes s)).getD 2 0, s.extract (finV s.size (varsO 3 (bytes s))).toNat s.size⟩ := rfl
@[go_sem] theorem Rd_eta (r : Rd) : Rd.mk r.s r.ok = r := rfl
theorem fin_pos {s : ByteArray} : 0 ≤ finV s.size (varsO 1 ((bytes s).drop 1)) → 0 < s.size := by
  intro h
  rcases Nat.eq_zero_or_pos s.size with h0 | h0
  · have hb : bytes s = [] := List.eq_nil_of_length_eq_zero (by rw [bytes_length]; exact h0)
    rw [hb, h0] at h
    have : varsO 1 (([] : List Int).drop 1) = none := rfl
    rw [this, finV] at h
    omega
  · exact h0
def rdOp (r : Rd) : OpV × Rd :=
  (⟨(rdKind r).1, (rdPiece (rdKind r).2).1, (rdNum (rdPiece (rdKind r).2).2).1, (rdNum (rdNum (rdPiece (rdKind r).2).2).2).1, (rdNum (rdNum (rdPiece (rdKind r).2).2).2).2.s⟩,
   (rdNum (rdNum (rdPiece (rdKind r).2).2).2).2)
theorem rdOp_eq (s : ByteArray) : rdOp ⟨s, true⟩ = ropR s := rfl
theorem rdNum_size (r : Rd) : (rdNum r).2.s.size ≤ r.s.size := by
  unfold rdNum; split
  · exact extract_le _ _ _
  · exact Nat.le_refl _
theorem rdBytes_size (r : Rd) (n : Int) : (rdBytes r n).2.s.size ≤ r.s.size ∧ (rdBytes r n).1.size ≤ r.s.size := by
  unfold rdBytes; split
  · exact ⟨Nat.le_refl _, Nat.zero_le _⟩
  · exact ⟨extract_le _ _ _, extract_le _ _ _⟩
theorem rdPiece_size (r : Rd) : (rdPiece r).2.s.size ≤ r.s.size ∧ (rdPiece r).1.size ≤ r.s.size := by
  have h1 := rdNum_size r
  have h2 := rdBytes_size (rdNum r).2 (rdNum r).1
  unfold rdPiece; omega
theorem rdKind_size (r : Rd) : (rdKind r).2.s.size ≤ r.s.size := (rdBytes_size r 1).1
theorem rdOp_size (r : Rd) : (rdOp r).1.key.size ≤ r.s.size ∧ (rdOp r).1.d.size ≤ r.s.size := by
  have h1 := rdKind_size r
  have h2 := rdPiece_size (rdKind r).2
  have h3 := rdNum_size (rdPiece (rdKind r).2).2
  have h4 := rdNum_size (rdNum (rdPiece (rdKind r).2).2).2
  unfold rdOp
  simp only
  omega
theorem fin_fact {n : Nat} {b : List Int} {z : Nat} (hb : isB b) (hz : b.length ≤ z) : 0 ≤ finV z (varsO n b) → (varsV n b).length = n ∧ finV z (varsO n b) ≤ z ∧ ∀ i, 0 ≤ (varsV n b).getD i 0 := by
  intro h
  rcases hv : varsO n b with _ | ⟨v, r⟩
  · rw [hv, finV] at h; omega
  · obtain ⟨h1, h2, h3⟩ := varsO_some n b v r hb hv
    rw [varsV_of _ _ _ _ hv]
    have h4 := finV_rest hv hb hz
    rw [hv] at h4
    refine ⟨h1, h4.2, fun i => ?_⟩
    rw [List.getD_eq_getElem?_getD]
    rcases hi : v[i]? with _ | x
    · simp
    · have := h2 x (List.mem_of_getElem? hi)
      unfold okN at this
      simp; omega
instance g45 (s : ByteArray) : Fs 45 [st1 s] (s.size ≤ 1152921504606846976) (⟨.tup [(true, 5), (false, 1)], [.int .i64 (rop s).1.k, .str (rop s).1.key, .int .i64 (rop s).1.f, .int .i64 (rop s).1.t, .str (rop s).1.d, .bool (rop s).2]⟩) := by
  refine F_of m45 rfl fun hyp => ?_
  have p0 := fin_pos (s := s)
  have bq := byteAt_rng s 0
  have f1 := fin_fact (n := 1) (z := s.size) (b := (bytes s).drop 1) (isB_drop (isB_bytes s) 1) (by rw [List.length_drop, bytes_length]; omega)
  have f2 := fin_fact (n := 2) (z := s.size) (b := ((bytes s).drop ((finV s.size (varsO 1 ((bytes s).drop 1))) + ((varsV 1 ((bytes s).drop 1)).getD 0 0)).toNat)) (isB_drop (isB_bytes s) _) (by rw [List.length_drop, bytes_length]; omega)
  have p1 : 0 ≤ (finV s.size (varsO 1 ((bytes s).drop 1))) → 0 ≤ ((varsV 1 ((bytes s).drop 1)).getD 0 0) := fun h => (f1 h).2.2 0
  have q1 := fun h => (f1 h).1
  have q2 := fun h => (f2 h).1
  have q3 := fun h => (f1 h).2.1
  have q4 := fun h => (f2 h).2.1
  clear f1 f2
  have z1 := extract_le s (finV s.size (varsO 1 ((bytes s).drop 1))).toNat ((finV s.size (varsO 1 ((bytes s).drop 1))) + ((varsV 1 ((bytes s).drop 1)).getD 0 0)).toNat
  have z2 := extract_le s (finV s.size (varsO 2 ((bytes s).drop ((finV s.size (varsO 1 ((bytes s).drop 1))) + ((varsV 1 ((bytes s).drop 1)).getD 0 0)).toNat))).toNat s.size
  simp (maxSteps := 1000000) (disch := omega) only [go_sem]
  repeat' (first | (with_reducible intro h; (try simp only [h]); (try simp only [HS] at h)) | ((with_reducible apply scEnd_of); exact rfl; exact rfl) | ((with_reducible apply ScW_of); rfl; rfl; trivial) | with_reducible first | apply Br_of | refine O1 ?_ | refine O2 ?_ | refine O3 ?_ | refine O4 ?_ | refine O5 ?_ | refine CI ?_ | refine CJ ?_ | refine CQp ?_ | refine CQ ?_ | simp (maxSteps := 1000000) (disch := omega) only [go_sem])
  · rw [ropS_eq, show sopR s = none from if_pos (or_assoc.1 h)]; rfl
  · rename_i h1
    rw [ropS_eq, show sopR s = none from (by unfold sopR; rw [if_neg (by omega), if_pos h])]; rfl
  · rename_i h2 h1
    rw [ropS_eq, show sopR s = some _ from (by unfold sopR; rw [if_neg (by omega), if_neg (by omega)])]; simp only; rw [if_neg h]; rfl
  · rename_i h2 h1
    rw [ropS_eq, show sopR s = some _ from (by unfold sopR; rw [if_neg (by omega), if_neg (by omega)])]; simp only; rw [if_pos h]
instance g71 (s : ByteArray) : Fs 71 [st1 s] (s.size ≤ 1152921504606846976) (⟨.tup [(true, 4), (false, 1)], [.int .i64 (rans s).1.c, .int .i64 (rans s).1.i, .int .i64 (rans s).1.m, .str (rans s).1.d, .bool (rans s).2]⟩) := by
  refine F_of m71 rfl fun hyp => ?_
  have f1 := fin_fact (n := 3) (z := s.size) (b := bytes s) (isB_bytes s) (by rw [bytes_length]; omega)
  have q1 := fun h => (f1 h).1
  have q3 := fun h => (f1 h).2.1
  clear f1
  have z1 := extract_le s (finV s.size (varsO 3 (bytes s))).toNat s.size
  have ez := sansR_eq s
  simp (maxSteps := 1000000) (disch := omega) only [go_sem]
  repeat' (first | (with_reducible intro h; (try simp only [h]); (try simp only [HS] at h)) | ((with_reducible apply scEnd_of); exact rfl; exact rfl) | ((with_reducible apply ScW_of); rfl; rfl; trivial) | with_reducible first | apply Br_of | refine O1 ?_ | refine O2 ?_ | refine O3 ?_ | refine O4 ?_ | refine O5 ?_ | refine CI ?_ | refine CJ ?_ | refine CQp ?_ | refine CQ ?_ | simp (maxSteps := 1000000) (disch := omega) only [go_sem])
  · rw [if_pos h] at ez; rw [ransS_eq, ez]; rfl
  · rw [if_neg (by omega)] at ez; rw [ransS_eq, ez]; simp only; rw [if_neg h]; rfl
  · rw [if_neg (by omega)] at ez; rw [ransS_eq, ez]; simp only; rw [if_pos h]
theorem wrap_sub10 {n : Int} (h : -9223372036854775808 ≤ n) (h2 : n ≤ 9223372036854775807) : (1 ≤ IntKind.i64.wrap (n - 10) ∧ IntKind.i64.wrap (n - 10) ≤ 4) ↔ (11 ≤ n ∧ n ≤ 14) := by
  rw [IntKind.wrap_i64]; omega
theorem runB_step {low high : Int} {l : List EV} {i : Nat} (h : i < l.length) : runB low high (l.drop i) = (decide (1 ≤ (l.getD i eZ).1) && (decide (low ≤ (l.getD i eZ).1) && decide ((l.getD i eZ).1 ≤ high)) && decide (((l.getD i eZ).2.size : Int) ≤ 900) && runB (l.getD i eZ).1 high (l.drop (i + 1))) := by
  rw [drop_getD eZ h]; rfl
def placeB (ix it : Int) : Bool := decide ((ix = 0 ∧ it = 0) ∨ ((1 ≤ ix ∧ ix ≤ 100000) ∧ (1 ≤ it ∧ it ≤ 100000)))
def appB (tm ix it cm : Int) (e : List EV) : Bool := placeB ix it && decide (it ≤ tm) && (decide (0 ≤ cm) && decide (cm ≤ 100000)) && decide (e.length ≤ 4) && runB it tm e && decide (ix + e.length ≤ 100000)
instance g69 (ix it : Int) : Fs 69 [i64 ix, i64 it] True (bl (decide (ix = 0) && decide (it = 0) || (decide (1 ≤ ix) && decide (ix ≤ 100000)) && (decide (1 ≤ it) && decide (it ≤ 100000)))) := by
  refine F_of m69 rfl fun hyp => ?_
  simp (maxSteps := 1000000) (disch := omega) only [go_sem]
  repeat' (first | (with_reducible intro h; (try simp only [h]); (try simp only [HS] at h)) | ((with_reducible apply scEnd_of); exact rfl; exact rfl) | ((with_reducible apply ScW_of); rfl; rfl; trivial) | with_reducible first | apply Br_of | refine O1 ?_ | refine O2 ?_ | refine O3 ?_ | refine O4 ?_ | refine O5 ?_ | refine CI ?_ | refine CJ ?_ | refine CQp ?_ | refine CQ ?_ | simp (maxSteps := 1000000) (disch := omega) only [go_sem])
  all_goals (simp only [Prod.mk.injEq, SV.mk.injEq, List.cons.injEq, Cell.bool.injEq, and_true, true_and, placeB, appB]; rw [Bool.eq_iff_iff]; simp only [Bool.and_eq_true, Bool.or_eq_true, decide_eq_true_eq]; try grind)
attribute [push_cast] rowsE_length
instance g70 (l : List EV) (lo hi : Int) : Fs 70 [⟨.one, [.ro 2 (rowsE l)]⟩, i64 lo, i64 hi] (l.length ≤ 1048576 ∧ (∀ e ∈ l, e.2.size ≤ 9223372036854775807)) (bl (runB lo hi l)) := by
  refine F_of m70 rfl fun hyp => ?_
  simp (maxSteps := 1000000) (disch := omega) only [go_sem]
  repeat' (first | (with_reducible intro h; (try simp only [h]); (try simp only [HS] at h)) | ((with_reducible apply scEnd_of); exact rfl; exact rfl) | ((with_reducible apply ScW_of); rfl; rfl; trivial) | with_reducible first | apply Br_of | refine O1 ?_ | refine O2 ?_ | refine O3 ?_ | refine O4 ?_ | refine O5 ?_ | refine CI ?_ | refine CJ ?_ | refine CQp ?_ | refine CQ ?_ | simp (maxSteps := 1000000) (disch := omega) only [go_sem])
  · refine LoopK_of (α := Nat × Int) (fun p => ⟨[(7, i64 p.1), (2, i64 hi), (1, i64 p.2), (0, ⟨.one, [.ro 2 (rowsE l)]⟩)], [], [(0, ⟨.one, [.ro 2 (rowsE l)]⟩), (1, i64 lo), (2, i64 hi)]⟩) (fun p => p.1 ≤ l.length ∧ runB p.2 hi (l.drop p.1) = runB lo hi l ∧ 1 ≤ p.2) (fun p => l.length - p.1) (0, 1) rfl ⟨Nat.zero_le _, (by rw [List.drop_zero, runB_low lo, if_pos h]), by simp only; omega⟩ ?_
    rintro ⟨i, low⟩ ⟨h1, h2, h3⟩
    simp only at h1 h2 h3
    have hs : i < l.length → (l.getD i eZ).2.size ≤ 9223372036854775807 := fun h => hyp.2 _ (getD_mem eZ h)
    by_cases hx : i < l.length
    · have hs := hs hx
      rw [runB_step hx] at h2
      simp (maxSteps := 1000000) (disch := omega) only [go_sem]
      repeat' (first | (with_reducible intro h; (try simp only [h]); (try simp only [HS] at h)) | ((with_reducible apply scEnd_of); exact rfl; exact rfl) | ((with_reducible apply ScW_of); rfl; rfl; trivial) | with_reducible first | apply Br_of | refine O1 ?_ | refine O2 ?_ | refine O3 ?_ | refine O4 ?_ | refine O5 ?_ | refine CI ?_ | refine CJ ?_ | refine CQp ?_ | refine CQ ?_ | simp (maxSteps := 1000000) (disch := omega) only [go_sem])
      all_goals (try (exfalso; omega))
      all_goals (try simp only [Bool.or_eq_true, decide_eq_true_eq, Bool.not_eq_true] at *)
      · have e : runB lo hi l = false := by rw [← h2]; simp only [Bool.and_eq_false_iff, decide_eq_false_iff_not]; omega
        rw [e]
      · refine LoopQ_of (i + 1, (l.getD i eZ).1) rfl ⟨by simp only; omega, ?_, by simp only; omega⟩ (by simp only; omega)
        rw [← h2]
        rw [decide_eq_true (show 1 ≤ (l.getD i eZ).1 by omega), decide_eq_true (show low ≤ (l.getD i eZ).1 by omega), decide_eq_true (show (l.getD i eZ).1 ≤ hi by omega), decide_eq_true (show ((l.getD i eZ).2.size : Int) ≤ 900 by omega)]; rfl
    · simp (maxSteps := 1000000) (disch := omega) only [go_sem]
      repeat' (first | (with_reducible intro h; (try simp only [h]); (try simp only [HS] at h)) | ((with_reducible apply scEnd_of); exact rfl; exact rfl) | ((with_reducible apply ScW_of); rfl; rfl; trivial) | with_reducible first | apply Br_of | refine O1 ?_ | refine O2 ?_ | refine O3 ?_ | refine O4 ?_ | refine O5 ?_ | refine CI ?_ | refine CJ ?_ | refine CQp ?_ | refine CQ ?_ | simp (maxSteps := 1000000) (disch := omega) only [go_sem])
      all_goals (try (exfalso; omega))
      · rw [List.drop_of_length_le (by omega), runB] at h2; rw [← h2]
  · refine LoopK_of (α := Nat × Int) (fun p => ⟨[(7, i64 p.1), (2, i64 hi), (1, i64 p.2), (0, ⟨.one, [.ro 2 (rowsE l)]⟩)], [], [(0, ⟨.one, [.ro 2 (rowsE l)]⟩), (1, i64 lo), (2, i64 hi)]⟩) (fun p => p.1 ≤ l.length ∧ runB p.2 hi (l.drop p.1) = runB lo hi l ∧ 1 ≤ p.2) (fun p => l.length - p.1) (0, lo) rfl ⟨Nat.zero_le _, rfl, by simp only; omega⟩ ?_
    rintro ⟨i, low⟩ ⟨h1, h2, h3⟩
    simp only at h1 h2 h3
    have hs : i < l.length → (l.getD i eZ).2.size ≤ 9223372036854775807 := fun h => hyp.2 _ (getD_mem eZ h)
    by_cases hx : i < l.length
    · have hs := hs hx
      rw [runB_step hx] at h2
      simp (maxSteps := 1000000) (disch := omega) only [go_sem]
      repeat' (first | (with_reducible intro h; (try simp only [h]); (try simp only [HS] at h)) | ((with_reducible apply scEnd_of); exact rfl; exact rfl) | ((with_reducible apply ScW_of); rfl; rfl; trivial) | with_reducible first | apply Br_of | refine O1 ?_ | refine O2 ?_ | refine O3 ?_ | refine O4 ?_ | refine O5 ?_ | refine CI ?_ | refine CJ ?_ | refine CQp ?_ | refine CQ ?_ | simp (maxSteps := 1000000) (disch := omega) only [go_sem])
      all_goals (try (exfalso; omega))
      all_goals (try simp only [Bool.or_eq_true, decide_eq_true_eq, Bool.not_eq_true] at *)
      · have e : runB lo hi l = false := by rw [← h2]; simp only [Bool.and_eq_false_iff, decide_eq_false_iff_not]; omega
        rw [e]
      · refine LoopQ_of (i + 1, (l.getD i eZ).1) rfl ⟨by simp only; omega, ?_, by simp only; omega⟩ (by simp only; omega)
        rw [← h2]
        rw [decide_eq_true (show 1 ≤ (l.getD i eZ).1 by omega), decide_eq_true (show low ≤ (l.getD i eZ).1 by omega), decide_eq_true (show (l.getD i eZ).1 ≤ hi by omega), decide_eq_true (show ((l.getD i eZ).2.size : Int) ≤ 900 by omega)]; rfl
    · simp (maxSteps := 1000000) (disch := omega) only [go_sem]
      repeat' (first | (with_reducible intro h; (try simp only [h]); (try simp only [HS] at h)) | ((with_reducible apply scEnd_of); exact rfl; exact rfl) | ((with_reducible apply ScW_of); rfl; rfl; trivial) | with_reducible first | apply Br_of | refine O1 ?_ | refine O2 ?_ | refine O3 ?_ | refine O4 ?_ | refine O5 ?_ | refine CI ?_ | refine CJ ?_ | refine CQp ?_ | refine CQ ?_ | simp (maxSteps := 1000000) (disch := omega) only [go_sem])
      all_goals (try (exfalso; omega))
      · rw [List.drop_of_length_le (by omega), runB] at h2; rw [← h2]
theorem rowsE_nil : rowsE [] = [] := rfl
instance g72 (k fr to tm ix it cm : Int) (y : Bool) (e : List EV) (d : ByteArray) (k2 fr2 to2 tm2 ix2 it2 cm2 : Int) (y2 : Bool) (e2 : List EV) (d2 : ByteArray) : Fs 72 [⟨.agg, [.int .i64 k, .int .i64 fr, .int .i64 to, .int .i64 tm, .int .i64 ix, .int .i64 it, .int .i64 cm, .bool y, .ro 2 (rowsE e), .str d]⟩, ⟨.agg, [.int .i64 k2, .int .i64 fr2, .int .i64 to2, .int .i64 tm2, .int .i64 ix2, .int .i64 it2, .int .i64 cm2, .bool y2, .ro 2 (rowsE e2), .str d2]⟩] (e.length ≤ 1048576) (bl (decide (k = k2) && decide (fr = fr2) && decide (to = to2) && decide (tm = tm2) && decide (ix = ix2) && decide (it = it2) && decide (cm = cm2) && decide (y = y2) && decide (d = d2) && eqE e e2)) := by
  refine F_of m72 rfl fun hyp => ?_
  simp (maxSteps := 1000000) (disch := omega) only [go_sem]
  repeat' (first | (with_reducible intro h; (try simp only [h]); (try simp only [HS] at h)) | ((with_reducible apply scEnd_of); exact rfl; exact rfl) | ((with_reducible apply ScW_of); rfl; rfl; trivial) | with_reducible first | apply Br_of | refine O1 ?_ | refine O2 ?_ | refine O3 ?_ | refine O4 ?_ | refine O5 ?_ | refine CI ?_ | refine CJ ?_ | refine CQp ?_ | refine CQ ?_ | simp (maxSteps := 1000000) (disch := omega) only [go_sem])
  all_goals (simp only [Prod.mk.injEq, SV.mk.injEq, List.cons.injEq, Cell.bool.injEq, and_true, true_and])
  · symm; simp only [Bool.and_eq_false_iff, decide_eq_false_iff_not]; grind
  · obtain ⟨⟨⟨⟨⟨⟨⟨⟨rfl, rfl⟩, rfl⟩, rfl⟩, rfl⟩, rfl⟩, rfl⟩, hy⟩, rfl⟩ := h
    have hy : y = y2 := by revert hy; cases y <;> cases y2 <;> simp
    subst hy; simp
def zP (tm ix it cm : Int) (y : Bool) (e : List EV) (d : ByteArray) (a b c f : Int) (g : Bool) (h : ByteArray) : Prop := tm = a ∧ ix = b ∧ it = c ∧ cm = f ∧ y = g ∧ e = [] ∧ d = h
def srvP (fr to tm : Int) : Prop := (0 ≤ fr ∧ fr ≤ 4) ∧ (0 ≤ to ∧ to ≤ 4) ∧ fr ≠ to ∧ (1 ≤ tm ∧ tm ≤ 100000)
def placeP (ix it : Int) : Prop := (ix = 0 ∧ it = 0) ∨ ((1 ≤ ix ∧ ix ≤ 100000) ∧ (1 ≤ it ∧ it ≤ 100000))
def msgP (k fr to tm ix it cm : Int) (y : Bool) (e : List EV) (d : ByteArray) : Prop :=
  (k = 1 ∧ srvP fr to tm ∧ placeP ix it ∧ it ≤ tm ∧ cm = 0 ∧ y = false ∧ e = [] ∧ d = ⟨#[]⟩) ∨
  (k = 2 ∧ srvP fr to tm ∧ ix = 0 ∧ it = 0 ∧ cm = 0 ∧ e = [] ∧ d = ⟨#[]⟩) ∨
  (k = 3 ∧ srvP fr to tm ∧ appB tm ix it cm e = true ∧ y = false ∧ d = ⟨#[]⟩) ∨
  (k = 4 ∧ srvP fr to tm ∧ (0 ≤ ix ∧ ix ≤ 100000) ∧ it = 0 ∧ cm = 0 ∧ e = [] ∧ d = ⟨#[]⟩) ∨
  (k = 5 ∧ srvP fr to tm ∧ (1 ≤ ix ∧ ix ≤ 100000) ∧ (1 ≤ it ∧ it ≤ tm) ∧ (d.size : Int) ≤ 30000 ∧ cm = 0 ∧ y = false ∧ e = []) ∨
  (k = 6 ∧ (11 ≤ fr ∧ fr ≤ 14) ∧ (0 ≤ to ∧ to ≤ 4) ∧ (1 ≤ ix ∧ ix ≤ 1000000) ∧ (rop d).2 = true ∧ tm = 0 ∧ it = 0 ∧ cm = 0 ∧ y = false ∧ e = []) ∨
  (k = 7 ∧ (0 ≤ fr ∧ fr ≤ 4) ∧ (11 ≤ to ∧ to ≤ 14) ∧ (1 ≤ ix ∧ ix ≤ 1000000) ∧ (rans d).2 = true ∧ tm = 0 ∧ it = 0 ∧ cm = 0 ∧ y = false ∧ e = [])
open Classical in
noncomputable def msgB (k fr to tm ix it cm : Int) (y : Bool) (e : List EV) (d : ByteArray) : Bool := decide (msgP k fr to tm ix it cm y e d)
open Classical in
theorem msgB_iff (k fr to tm ix it cm : Int) (y : Bool) (e : List EV) (d : ByteArray) : msgB k fr to tm ix it cm y e d = true ↔ msgP k fr to tm ix it cm y e d := by unfold msgB; exact decide_eq_true_iff
theorem len0 {e : List EV} : ((e.length : Int) = 0) = (e = []) := by
  rw [← List.length_eq_zero_iff]; apply propext; omega
attribute [push_cast] rowsE_length
instance g72_nil (k fr to tm ix it cm : Int) (y : Bool) (e : List EV) (d : ByteArray) (k2 fr2 to2 tm2 ix2 it2 cm2 : Int) (y2 : Bool) (d2 : ByteArray) : Fs 72 [⟨.agg, [.int .i64 k, .int .i64 fr, .int .i64 to, .int .i64 tm, .int .i64 ix, .int .i64 it, .int .i64 cm, .bool y, .ro 2 (rowsE e), .str d]⟩, ⟨.agg, [.int .i64 k2, .int .i64 fr2, .int .i64 to2, .int .i64 tm2, .int .i64 ix2, .int .i64 it2, .int .i64 cm2, .bool y2, .ro 2 ([]), .str d2]⟩] (e.length ≤ 1048576) (bl (decide (k = k2) && decide (fr = fr2) && decide (to = to2) && decide (tm = tm2) && decide (ix = ix2) && decide (it = it2) && decide (cm = cm2) && decide (y = y2) && decide (d = d2) && eqE e [])) := ⟨fun h => Fc.ok (self := g72 k fr to tm ix it cm y e d k2 fr2 to2 tm2 ix2 it2 cm2 y2 [] d2) h⟩
attribute [push_cast] rowsE_length
instance g17 (k fr to tm ix it cm : Int) (y : Bool) (e : List EV) (d : ByteArray) : Fs 17 [⟨.agg, [.int .i64 k, .int .i64 fr, .int .i64 to, .int .i64 tm, .int .i64 ix, .int .i64 it, .int .i64 cm, .bool y, .ro 2 (rowsE e), .str d]⟩] (((-9223372036854775808 ≤ fr ∧ fr ≤ 9223372036854775807) ∧ (-9223372036854775808 ≤ to ∧ to ≤ 9223372036854775807)) ∧ (e.length ≤ 1048576 ∧ d.size ≤ 1152921504606846976) ∧ (∀ p ∈ e, p.2.size ≤ 9223372036854775807)) (bl (msgB k fr to tm ix it cm y e d)) := by
  refine F_of m17 rfl fun hyp => ?_
  obtain ⟨⟨⟨a1, a2⟩, a3, a4⟩, ⟨a5, a6⟩, a7⟩ := id hyp
  simp (maxSteps := 1000000) (disch := omega) only [go_sem]
  repeat' (first | (with_reducible intro h; (try simp only [h]); (try simp only [HS] at h)) | ((with_reducible apply scEnd_of); exact rfl; exact rfl) | ((with_reducible apply ScW_of); rfl; rfl; trivial) | with_reducible first | apply Br_of | refine O1 ?_ | refine O2 ?_ | refine O3 ?_ | refine O4 ?_ | refine O5 ?_ | refine CI ?_ | refine CJ ?_ | refine CQp ?_ | refine CQ ?_ | simp (maxSteps := 1000000) (disch := omega) only [go_sem])
  all_goals (try (exfalso; omega))
  all_goals (try exact true)
  all_goals (simp only [Prod.mk.injEq, SV.mk.injEq, List.cons.injEq, Cell.bool.injEq, and_true, true_and]; rw [Bool.eq_iff_iff, msgB_iff]; simp only [eqE, appB, placeB, msgP, srvP, placeP, eq_comm (a := (⟨#[]⟩ : ByteArray)), eq_comm (a := (0 : Int)), Bool.and_eq_true, Bool.or_eq_true, decide_eq_true_eq, List.length_nil, Int.natCast_zero, len0, Bool.not_eq_true', beq_iff_eq, decide_eq_false_iff_not, and_true, ne_eq]; (try subst h); simp only [*, Int.reduceEq, false_and, or_false, false_or, true_and, and_assoc]; try grind)
def szM (e : List EV) (d : ByteArray) (n : Int) : Int := if szES e n < 0 then -1 else if szES e n - d.size < 0 then -1 else szES e n - d.size
attribute [push_cast] rowsE_length
theorem szM_rng {e : List EV} {d : ByteArray} {n : Int} (h : 0 ≤ n) : 0 ≤ szM e d n → (e.length : Int) ≤ n ∧ (d.size : Int) ≤ n := by
  have hr := szES_rng (l := e) h
  unfold szM
  intro h2
  split at h2
  · omega
  · split at h2
    · omega
    · have := hr.2 (by omega); exact ⟨this.1, by omega⟩
def numsT (l : List Int) : ByteArray := l.foldl (fun s n => s ++ varS n) ⟨#[]⟩
theorem numsT_snoc (l : List Int) (n : Int) : numsT (l ++ [n]) = numsT l ++ varS n := by simp [numsT]
theorem numsT_le : ∀ (l : List Int) (s : ByteArray), (l.foldl (fun s n => s ++ varS n) s).size ≤ s.size + 7 * l.length
  | [], s => by simp
  | n :: t, s => by
    have h1 := numsT_le t (s ++ varS n)
    have h2 := varS_le n
    rw [ByteArray.size_append] at h1
    simp only [List.foldl_cons, List.length_cons]
    omega
theorem numsT_sz (l : List Int) : (numsT l).size ≤ 7 * l.length := by have h := numsT_le l ⟨#[]⟩; have e2 : (⟨#[]⟩ : ByteArray).size = 0 := rfl; rw [e2] at h; unfold numsT; omega
def entF (s : ByteArray) (l : List EV) : ByteArray := l.foldl (fun s p => s ++ (varS p.1 ++ (varS p.2.size ++ p.2))) s
theorem entF_snoc (s : ByteArray) (l : List EV) (p : EV) : entF s (l ++ [p]) = entF s l ++ (varS p.1 ++ (varS p.2.size ++ p.2)) := by simp [entF]
theorem entF_le : ∀ (l : List EV) (s : ByteArray), (∀ p ∈ l, p.2.size ≤ 900) → (entF s l).size ≤ s.size + 914 * l.length
  | [], s, _ => by simp [entF]
  | p :: t, s, h => by
    have h1 := entF_le t (s ++ (varS p.1 ++ (varS p.2.size ++ p.2))) fun q hq => h q (List.mem_cons_of_mem _ hq)
    have h2 := varS_le p.1
    have h3 := varS_le p.2.size
    have h4 := h p (List.mem_cons_self ..)
    rw [ByteArray.size_append, ByteArray.size_append, ByteArray.size_append] at h1
    simp only [entF, List.foldl_cons, List.length_cons] at h1 ⊢
    omega
theorem runB_all (high : Int) : ∀ (l : List EV) (low : Int), runB low high l = true → ∀ p ∈ l, p.2.size ≤ 900
  | [], _, _ => by simp
  | e :: t, low, h => by
    simp only [runB, Bool.and_eq_true, decide_eq_true_eq] at h
    intro p hp
    rcases List.mem_cons.1 hp with rfl | hp
    · omega
    · exact runB_all high t _ h.2 p hp
theorem msgB_ent {k fr to tm ix it cm : Int} {y : Bool} {e : List EV} {d : ByteArray} (h : msgB k fr to tm ix it cm y e d = true) : e.length ≤ 4 ∧ ∀ p ∈ e, p.2.size ≤ 900 := by
  rw [msgB_iff] at h
  have hnil : e = [] → e.length ≤ 4 ∧ ∀ p ∈ e, p.2.size ≤ 900 := fun he => by subst he; simp
  have happ : appB tm ix it cm e = true → e.length ≤ 4 ∧ ∀ p ∈ e, p.2.size ≤ 900 := fun he => by
    simp only [appB, Bool.and_eq_true, decide_eq_true_eq] at he
    exact ⟨he.1.1.2, runB_all _ _ _ he.1.2⟩
  unfold msgP at h
  grind
def bI (y : Bool) : Int := if y then 1 else 0
def msgN (k fr to tm ix it cm : Int) (y : Bool) (e : List EV) : List Int := [k, fr, to, tm, ix, it, cm, bI y, (e.length : Int)]
def msgT (k fr to tm ix it cm : Int) (y : Bool) (e : List EV) (d : ByteArray) : ByteArray := entF (numsT (msgN k fr to tm ix it cm y e)) e ++ d
noncomputable def showM (k fr to tm ix it cm : Int) (y : Bool) (e : List EV) (d : ByteArray) : ByteArray :=
  if msgB k fr to tm ix it cm y e d = true then fixS (crcN (msgT k fr to tm ix it cm y e d)) 4 ++ msgT k fr to tm ix it cm y e d else ⟨#[]⟩
theorem empty_app (s : ByteArray) : (⟨#[]⟩ : ByteArray) ++ s = s := by
  apply str_inj; rw [bytes_append]; rfl
attribute [push_cast] rowsE_length
structure MsgV where
  k : Int
  fr : Int
  to : Int
  tm : Int
  ix : Int
  it : Int
  cm : Int
  y : Bool
  e : List EV
  d : ByteArray
noncomputable def MsgV.okB (m : MsgV) : Bool := msgB m.k m.fr m.to m.tm m.ix m.it m.cm m.y m.e m.d
def MsgV.zero : MsgV := ⟨0, 0, 0, 0, 0, 0, 0, false, [], ⟨#[]⟩⟩
def MsgV.txt (m : MsgV) : ByteArray := msgT m.k m.fr m.to m.tm m.ix m.it m.cm m.y m.e m.d
noncomputable def MsgV.show (m : MsgV) : ByteArray := showM m.k m.fr m.to m.tm m.ix m.it m.cm m.y m.e m.d
theorem runB_rng (high : Int) : ∀ (l : List EV) (low : Int), runB low high l = true → ∀ p ∈ l, 1 ≤ p.1 ∧ p.1 ≤ high
  | [], _, _ => by simp
  | e :: t, low, h => by
    simp only [runB, Bool.and_eq_true, decide_eq_true_eq] at h
    intro p hp
    rcases List.mem_cons.1 hp with rfl | hp
    · omega
    · exact runB_rng high t _ h.2 p hp
def MsgV.small (m : MsgV) : Prop := (0 ≤ m.k ∧ m.k ≤ 1000000) ∧ (0 ≤ m.fr ∧ m.fr ≤ 1000000) ∧ (0 ≤ m.to ∧ m.to ≤ 1000000) ∧ (0 ≤ m.tm ∧ m.tm ≤ 1000000) ∧ (0 ≤ m.ix ∧ m.ix ≤ 1000000) ∧ (0 ≤ m.it ∧ m.it ≤ 1000000) ∧ (0 ≤ m.cm ∧ m.cm ≤ 1000000) ∧
  m.e.length ≤ 4 ∧ ∀ p ∈ m.e, (0 ≤ p.1 ∧ p.1 ≤ 1000000) ∧ p.2.size ≤ 900
theorem okB_small {m : MsgV} (h : m.okB = true) : m.small := by
  have he := msgB_ent h
  unfold MsgV.okB at h
  rw [msgB_iff] at h
  have hr : ∀ p ∈ m.e, 0 ≤ p.1 ∧ p.1 ≤ 1000000 := by
    unfold msgP srvP at h
    rcases h with h | h | h | h | h | h | h
    · have h2 : m.e = [] := h.2.2.2.2.2.2.1
      rw [h2]; simp
    · have h2 : m.e = [] := h.2.2.2.2.2.1
      rw [h2]; simp
    · have h2 := h.2.2.1
      simp only [appB, Bool.and_eq_true, decide_eq_true_eq] at h2
      intro p hp
      have := runB_rng _ _ _ h2.1.2 p hp
      omega
    · have h2 : m.e = [] := h.2.2.2.2.2.1
      rw [h2]; simp
    · have h2 : m.e = [] := h.2.2.2.2.2.2.2
      rw [h2]; simp
    · have h2 : m.e = [] := h.2.2.2.2.2.2.2.2.2
      rw [h2]; simp
    · have h2 : m.e = [] := h.2.2.2.2.2.2.2.2.2
      rw [h2]; simp
  have hn : (0 ≤ m.k ∧ m.k ≤ 1000000) ∧ (0 ≤ m.fr ∧ m.fr ≤ 1000000) ∧ (0 ≤ m.to ∧ m.to ≤ 1000000) ∧ (0 ≤ m.tm ∧ m.tm ≤ 1000000) ∧ (0 ≤ m.ix ∧ m.ix ≤ 1000000) ∧ (0 ≤ m.it ∧ m.it ≤ 1000000) ∧ (0 ≤ m.cm ∧ m.cm ≤ 1000000) := by
    unfold msgP srvP placeP at h
    rcases h with h | h | h | h | h | h | h
    · omega
    · omega
    · have h2 := h.2.2.1
      simp only [appB, placeB, Bool.and_eq_true, decide_eq_true_eq] at h2
      omega
    · omega
    · omega
    · omega
    · omega
  exact ⟨hn.1, hn.2.1, hn.2.2.1, hn.2.2.2.1, hn.2.2.2.2.1, hn.2.2.2.2.2.1, hn.2.2.2.2.2.2, he.1, fun p hp => ⟨hr p hp, he.2 p hp⟩⟩
def entL : List EV → List Int
  | [] => []
  | p :: t => varL p.1.toNat ++ (varL p.2.size ++ (bytes p.2 ++ entL t))
theorem varS_bytes {x : Int} (h : 0 ≤ x) (h2 : x ≤ 1000000) : bytes (varS x) = varL x.toNat := by
  rw [varS_ok (by unfold okN; omega), bytes_str (varL_isB _)]
theorem entF_bytes : ∀ (l : List EV) (s : ByteArray), (∀ p ∈ l, (0 ≤ p.1 ∧ p.1 ≤ 1000000) ∧ p.2.size ≤ 900) → bytes (entF s l) = bytes s ++ entL l
  | [], s, _ => by simp [entF, entL]
  | p :: t, s, h => by
    have hp := h p (List.mem_cons_self ..)
    have ih := entF_bytes t (s ++ (varS p.1 ++ (varS p.2.size ++ p.2))) fun q hq => h q (List.mem_cons_of_mem _ hq)
    show bytes (entF (s ++ (varS p.1 ++ (varS p.2.size ++ p.2))) t) = _
    rw [ih, bytes_append, bytes_append, bytes_append, varS_bytes hp.1.1 hp.1.2, varS_bytes (by omega) (by omega), Int.toNat_natCast]
    simp [entL]
theorem txt_bytes {m : MsgV} (h : m.small) : bytes m.txt = varL m.k.toNat ++ (varL m.fr.toNat ++ (varL m.to.toNat ++ (varL m.tm.toNat ++ (varL m.ix.toNat ++ (varL m.it.toNat ++ (varL m.cm.toNat ++ (varL (bI m.y).toNat ++ (varL m.e.length ++ (entL m.e ++ bytes m.d))))))))) := by
  obtain ⟨h1, h2, h3, h4, h5, h6, h7, h8, h9⟩ := h
  have hb : 0 ≤ bI m.y ∧ bI m.y ≤ 1 := by unfold bI; split <;> omega
  unfold MsgV.txt msgT
  rw [bytes_append, entF_bytes _ _ h9]
  have e0 : bytes (numsT (msgN m.k m.fr m.to m.tm m.ix m.it m.cm m.y m.e)) = varL m.k.toNat ++ (varL m.fr.toNat ++ (varL m.to.toNat ++ (varL m.tm.toNat ++ (varL m.ix.toNat ++ (varL m.it.toNat ++ (varL m.cm.toNat ++ (varL (bI m.y).toNat ++ varL m.e.length))))))) := by
    show bytes ((⟨#[]⟩ : ByteArray) ++ varS m.k ++ varS m.fr ++ varS m.to ++ varS m.tm ++ varS m.ix ++ varS m.it ++ varS m.cm ++ varS (bI m.y) ++ varS m.e.length) = _
    rw [empty_app, bytes_append, bytes_append, bytes_append, bytes_append, bytes_append, bytes_append, bytes_append, bytes_append,
      varS_bytes h1.1 h1.2, varS_bytes h2.1 h2.2, varS_bytes h3.1 h3.2, varS_bytes h4.1 h4.2, varS_bytes h5.1 h5.2, varS_bytes h6.1 h6.2, varS_bytes h7.1 h7.2, varS_bytes hb.1 (by omega), varS_bytes (by omega) (by omega), Int.toNat_natCast]
    simp only [List.append_assoc]
  rw [e0]
  simp only [List.append_assoc]
def MsgAt (s : ByteArray) (m : MsgV) : Prop := m.okB = true ∧ s = fixS (crcN m.txt) 4 ++ m.txt
theorem MsgAt.bytes4 {s : ByteArray} {m : MsgV} (h : MsgAt s m) : bytes s = fixL 4 (crcN m.txt).toNat ++ bytes m.txt := by
  have hc := crcN_rng m.txt
  rw [h.2, bytes_append, fixS4_bytes hc.1 hc.2]
def rdCount (r : Rd) (most : Int) : Int × Rd :=
  if ((rdNum r).2.ok && decide ((rdNum r).1 ≤ most)) = true then ((rdNum r).1, (rdNum r).2) else (0, ⟨(rdNum r).2.s, false⟩)
def rdEnts : Nat → Rd → List EV → List EV × Rd
  | 0, r, out => (out, r)
  | n + 1, r, out => rdEnts n (rdPiece (rdNum r).2).2 (out ++ [((rdNum r).1, (rdPiece (rdNum r).2).1)])
theorem rdEnts_app : ∀ (l : List EV) (s : ByteArray) (t : List Int) (out : List EV), (∀ p ∈ l, (0 ≤ p.1 ∧ p.1 ≤ 1000000) ∧ p.2.size ≤ 900) → bytes s = entL l ++ t → ∃ s', rdEnts l.length ⟨s, true⟩ out = (out ++ l, ⟨s', true⟩) ∧ bytes s' = t
  | [], s, t, out, _, h => ⟨s, by simp [rdEnts], by simpa [entL] using h⟩
  | p :: l, s, t, out, hl, h => by
    have hp := hl p (List.mem_cons_self ..)
    simp only [entL, List.append_assoc] at h
    obtain ⟨s1, a1, b1⟩ := rdNum_var (by unfold okN; omega) h
    obtain ⟨s2, a2, b2⟩ := rdPiece_app (by omega) b1
    obtain ⟨s3, a3, b3⟩ := rdEnts_app l s2 t (out ++ [p]) (fun q hq => hl q (List.mem_cons_of_mem _ hq)) b2
    refine ⟨s3, ?_, b3⟩
    simp only [List.length_cons, rdEnts, a1, a2]
    rw [a3]
    simp
def msgR (s : ByteArray) : MsgV × Rd :=
  let r0 : Rd := ⟨s.extract 4 s.size, true⟩
  let a1 := rdNum r0
  let a2 := rdNum a1.2
  let a3 := rdNum a2.2
  let a4 := rdNum a3.2
  let a5 := rdNum a4.2
  let a6 := rdNum a5.2
  let a7 := rdNum a6.2
  let a8 := rdNum a7.2
  let a9 := rdCount a8.2 4
  let a10 := rdEnts a9.1.toNat a9.2 []
  (⟨a1.1, a2.1, a3.1, a4.1, a5.1, a6.1, a7.1, decide (a8.1 = 1), a10.1, a10.2.s⟩, a10.2)
theorem msgR_of {s : ByteArray} {m : MsgV} (h : MsgAt s m) : (msgR s).1 = m ∧ (msgR s).2.ok = true := by
  have hs := okB_small h.1
  have hb := h.bytes4
  have hb0 : bytes (s.extract 4 s.size) = bytes m.txt := by
    rw [bytes_tail, hb, List.drop_left' (fixL_len 4 _)]
  rw [txt_bytes hs] at hb0
  obtain ⟨h1, h2, h3, h4, h5, h6, h7, h8, h9⟩ := hs
  have hy : 0 ≤ bI m.y ∧ bI m.y ≤ 1 := by unfold bI; split <;> omega
  obtain ⟨s1, a1, b1⟩ := rdNum_var (by unfold okN; omega) hb0
  obtain ⟨s2, a2, b2⟩ := rdNum_var (by unfold okN; omega) b1
  obtain ⟨s3, a3, b3⟩ := rdNum_var (by unfold okN; omega) b2
  obtain ⟨s4, a4, b4⟩ := rdNum_var (by unfold okN; omega) b3
  obtain ⟨s5, a5, b5⟩ := rdNum_var (by unfold okN; omega) b4
  obtain ⟨s6, a6, b6⟩ := rdNum_var (by unfold okN; omega) b5
  obtain ⟨s7, a7, b7⟩ := rdNum_var (by unfold okN; omega) b6
  obtain ⟨s8, a8, b8⟩ := rdNum_var (by unfold okN; omega) b7
  obtain ⟨s9, a9, b9⟩ := rdNum_var (n := (m.e.length : Int)) (by unfold okN; omega) (by rw [Int.toNat_natCast]; exact b8)
  obtain ⟨s10, a10, b10⟩ := rdEnts_app m.e s9 (bytes m.d) [] h9 b9
  have hc : rdCount ⟨s8, true⟩ 4 = ((m.e.length : Int), ⟨s9, true⟩) := by
    unfold rdCount
    rw [a9]
    simp only [Bool.true_and, decide_eq_true_eq]
    rw [if_pos (by omega)]
  have hbi : decide (bI m.y = 1) = m.y := by cases m.y <;> rfl
  unfold msgR
  simp only [a1, a2, a3, a4, a5, a6, a7, a8, hc, Int.toNat_natCast, a10, List.nil_append, hbi]
  have e : s10 = m.d := str_inj b10
  rw [e]
  exact ⟨rfl, trivial⟩
theorem MsgAt.uniq {s : ByteArray} {o o' : MsgV} (h : MsgAt s o) (h' : MsgAt s o') : o = o' := by rw [← (msgR_of h).1, (msgR_of h').1]
open Classical in
noncomputable def rmsg (s : ByteArray) : MsgV × Bool := if h : ∃ m, MsgAt s m then (Classical.choose h, true) else (MsgV.zero, false)
theorem rmsg_cases (s : ByteArray) : (∃ m, MsgAt s m ∧ rmsg s = (m, true)) ∨ ((∀ m, ¬MsgAt s m) ∧ rmsg s = (MsgV.zero, false)) := by
  unfold rmsg
  by_cases h : ∃ m, MsgAt s m
  · rw [dif_pos h]; exact .inl ⟨_, Classical.choose_spec h, rfl⟩
  · rw [dif_neg h]; exact .inr ⟨fun o ho => h ⟨o, ho⟩, rfl⟩
theorem show_at {s : ByteArray} {m : MsgV} (h : m.show = s) (hs : s ≠ ⟨#[]⟩) : MsgAt s m := by
  unfold MsgV.show showM at h
  split at h
  · rename_i hk; exact ⟨hk, h.symm⟩
  · exact absurd h.symm hs
theorem show_of {s : ByteArray} {m : MsgV} (h : MsgAt s m) : m.show = s := by unfold MsgV.show showM; rw [if_pos (show msgB _ _ _ _ _ _ _ _ _ _ = true from h.1)]; exact h.2.symm
theorem MsgAt.size4 {s : ByteArray} {m : MsgV} (h : MsgAt s m) : 4 ≤ s.size := by
  have := congrArg List.length h.bytes4
  rw [bytes_length, List.length_append, fixL_len] at this
  omega
theorem rmsgI_eq (s : ByteArray) : rmsg s = if 4 ≤ s.size ∧ (msgR s).2.ok = true ∧ (msgR s).1.show = s then ((msgR s).1, true) else (MsgV.zero, false) := by
  rcases rmsg_cases s with ⟨o, h, e⟩ | ⟨h, e⟩
  · rw [e]
    obtain ⟨h1, h2⟩ := msgR_of h
    rw [h1, if_pos ⟨h.size4, h2, show_of h⟩]
  · rw [e]
    split
    · rename_i hc
      have hs : s ≠ ⟨#[]⟩ := by
        rintro rfl
        have e2 : (⟨#[]⟩ : ByteArray).size = 0 := rfl
        rw [e2] at hc; omega
      exact absurd (show_at hc.2.2 hs) (h _)
    · rfl
def pieceA (s : ByteArray) (a : Nat) : ByteArray × Int :=
  if finV s.size (varsO 1 ((bytes s).drop a)) < 0 ∨ (s.size : Int) - finV s.size (varsO 1 ((bytes s).drop a)) < (varsV 1 ((bytes s).drop a)).getD 0 0 then (⟨#[]⟩, -1)
  else (s.extract (finV s.size (varsO 1 ((bytes s).drop a))).toNat (finV s.size (varsO 1 ((bytes s).drop a)) + (varsV 1 ((bytes s).drop a)).getD 0 0).toNat, finV s.size (varsO 1 ((bytes s).drop a)) + (varsV 1 ((bytes s).drop a)).getD 0 0)
def spE (s : ByteArray) : Nat → Nat → List EV → Option (List EV × Nat)
  | 0, a, out => some (out, a)
  | n + 1, a, out =>
    if finV s.size (varsO 1 ((bytes s).drop a)) < 0 then none
    else if (pieceA s (finV s.size (varsO 1 ((bytes s).drop a))).toNat).2 < 0 then none
    else spE s n (pieceA s (finV s.size (varsO 1 ((bytes s).drop a))).toNat).2.toNat (out ++ [((varsV 1 ((bytes s).drop a)).getD 0 0, (pieceA s (finV s.size (varsO 1 ((bytes s).drop a))).toNat).1)])
def smsgR (s : ByteArray) : Option MsgV :=
  if finV s.size (varsO 9 ((bytes s).drop 4)) < 0 ∨ 4 < (varsV 9 ((bytes s).drop 4)).getD 8 0 then none
  else match spE s ((varsV 9 ((bytes s).drop 4)).getD 8 0).toNat (finV s.size (varsO 9 ((bytes s).drop 4))).toNat [] with
    | some (l, a) => some ⟨(varsV 9 ((bytes s).drop 4)).getD 0 0, (varsV 9 ((bytes s).drop 4)).getD 1 0, (varsV 9 ((bytes s).drop 4)).getD 2 0, (varsV 9 ((bytes s).drop 4)).getD 3 0, (varsV 9 ((bytes s).drop 4)).getD 4 0, (varsV 9 ((bytes s).drop 4)).getD 5 0,
        (varsV 9 ((bytes s).drop 4)).getD 6 0, decide ((varsV 9 ((bytes s).drop 4)).getD 7 0 = 1), l, s.extract a s.size⟩
    | none => none
theorem fin_one {s : ByteArray} {a x : Nat} {t : List Int} (ha : a ≤ s.size) (hx : x ≤ 562949953421311) (h : (bytes s).drop a = varL x ++ t) :
    finV s.size (varsO 1 ((bytes s).drop a)) = ((a + (varL x).length : Nat) : Int) ∧ (varsV 1 ((bytes s).drop a)) = [(x : Int)] ∧ a + (varL x).length ≤ s.size ∧ (bytes s).drop (a + (varL x).length) = t := by
  have hl := congrArg List.length h
  rw [List.length_drop, bytes_length, List.length_append] at hl
  have v := varsO_one hx t
  rw [← h] at v
  refine ⟨?_, varsV_of _ _ _ _ v, by omega, by rw [← List.drop_drop, h, List.drop_left]⟩
  rw [v, finV]
  omega
theorem pieceA_app {s : ByteArray} {a : Nat} {p : ByteArray} {t : List Int} (ha : a ≤ s.size) (hp : p.size ≤ 562949953421311) (h : (bytes s).drop a = varL p.size ++ (bytes p ++ t)) :
    pieceA s a = (p, ((a + (varL p.size).length + p.size : Nat) : Int)) ∧ a + (varL p.size).length + p.size ≤ s.size ∧ (bytes s).drop (a + (varL p.size).length + p.size) = t := by
  obtain ⟨e1, e2, e3, e4⟩ := fin_one ha hp h
  have hl := congrArg List.length e4
  rw [List.length_drop, bytes_length, List.length_append, bytes_length] at hl
  unfold pieceA
  rw [e1, e2]
  simp only [List.getD_cons_zero]
  rw [if_neg (by omega)]
  refine ⟨?_, by omega, by rw [← List.drop_drop, e4, ← bytes_length, List.drop_left]⟩
  rw [show (((a + (varL p.size).length : Nat) : Int) + (p.size : Int)).toNat = a + (varL p.size).length + p.size by omega, Int.toNat_natCast]
  congr 1
  apply str_inj
  rw [bytes_extract, List.drop_take, e4, show a + (varL p.size).length + p.size - (a + (varL p.size).length) = (bytes p).length by rw [bytes_length]; omega, List.take_left]
theorem spE_app {s : ByteArray} : ∀ (l : List EV) (a : Nat) (t : List Int) (out : List EV), a ≤ s.size → (∀ p ∈ l, (0 ≤ p.1 ∧ p.1 ≤ 1000000) ∧ p.2.size ≤ 900) → (bytes s).drop a = entL l ++ t →
    ∃ b, spE s l.length a out = some (out ++ l, b) ∧ b ≤ s.size ∧ (bytes s).drop b = t
  | [], a, t, out, ha, _, h => ⟨a, by simp [spE], ha, by simpa [entL] using h⟩
  | p :: l, a, t, out, ha, hl, h => by
    have hp := hl p (List.mem_cons_self ..)
    simp only [entL, List.append_assoc] at h
    obtain ⟨e1, e2, e3, e4⟩ := fin_one ha (by omega) h
    obtain ⟨f1, f2, f3⟩ := pieceA_app e3 (by omega) e4
    obtain ⟨b, g1, g2, g3⟩ := spE_app l _ t (out ++ [p]) f2 (fun q hq => hl q (List.mem_cons_of_mem _ hq)) f3
    refine ⟨b, ?_, g2, g3⟩
    simp only [List.length_cons, spE]
    rw [e1, e2, Int.toNat_natCast, f1]
    simp only [List.getD_cons_zero]
    rw [if_neg (by omega), if_neg (by omega), Int.toNat_natCast, Int.toNat_of_nonneg hp.1.1, g1]
    simp
theorem varsO_cons {n x : Nat} {t : List Int} (h : x ≤ 562949953421311) {v r : List Int} (ht : varsO n t = some (v, r)) : varsO (n + 1) (varL x ++ t) = some ((x : Int) :: v, r) := by
  simp only [varsO, rvO_var h, List.drop_left, ht]
theorem smsgR_of {s : ByteArray} {m : MsgV} (h : MsgAt s m) : smsgR s = some m := by
  have hs := okB_small h.1
  have hb := h.bytes4
  have h4 := h.size4
  have hb0 : (bytes s).drop 4 = bytes m.txt := by rw [hb, List.drop_left' (fixL_len 4 _)]
  rw [txt_bytes hs] at hb0
  obtain ⟨T, hT⟩ : ∃ T, T = entL m.e ++ bytes m.d := ⟨_, rfl⟩
  rw [← hT] at hb0
  obtain ⟨h1, h2, h3, h4', h5, h6, h7, h8, h9⟩ := hs
  have hy : 0 ≤ bI m.y ∧ bI m.y ≤ 1 := by unfold bI; split <;> omega
  have v0 : varsO 0 T = some ([], T) := rfl
  have v9 := varsO_cons (x := m.k.toNat) (by omega) (varsO_cons (x := m.fr.toNat) (by omega) (varsO_cons (x := m.to.toNat) (by omega) (varsO_cons (x := m.tm.toNat) (by omega) (varsO_cons (x := m.ix.toNat) (by omega)
    (varsO_cons (x := m.it.toNat) (by omega) (varsO_cons (x := m.cm.toNat) (by omega) (varsO_cons (x := (bI m.y).toNat) (by omega) (varsO_cons (x := m.e.length) (by omega) v0))))))))
  have hl := congrArg List.length hb0
  rw [List.length_drop, bytes_length] at hl
  rw [← hb0] at v9
  have w9 := varsV_of _ _ _ _ v9
  have hle : T.length ≤ s.size - 4 := by rw [hl]; simp only [List.length_append]; omega
  have hd : (bytes s).drop (s.size - T.length) = T := by
    have e1 : s.size - T.length = 4 + (s.size - 4 - T.length) := by omega
    rw [e1, ← List.drop_drop]
    have e2 : s.size - 4 - T.length = ((bytes s).drop 4).length - T.length := by rw [List.length_drop, bytes_length]
    rw [e2, hb0]
    simp only [← List.append_assoc]
    apply List.drop_left'
    simp only [List.length_append]; omega
  obtain ⟨b, g1, g2, g3⟩ := spE_app (s := s) m.e (s.size - T.length) (bytes m.d) [] (by omega) h9 (by rw [hd, hT])
  have hbi : decide (bI m.y = 1) = m.y := by cases m.y <;> rfl
  have hf : finV s.size (varsO 9 ((bytes s).drop 4)) = ((s.size - T.length : Nat) : Int) := by
    rw [v9, finV]; omega
  unfold smsgR
  rw [hf, w9]
  simp only [List.getD_cons_zero, List.getD_cons_succ, Int.toNat_natCast]
  rw [if_neg (by omega), g1]
  simp only [List.nil_append]
  have ed : s.extract b s.size = m.d := by apply str_inj; rw [bytes_tail, g3]
  rw [ed, show ((m.k.toNat : Nat) : Int) = m.k by omega, show ((m.fr.toNat : Nat) : Int) = m.fr by omega, show ((m.to.toNat : Nat) : Int) = m.to by omega, show ((m.tm.toNat : Nat) : Int) = m.tm by omega,
    show ((m.ix.toNat : Nat) : Int) = m.ix by omega, show ((m.it.toNat : Nat) : Int) = m.it by omega, show ((m.cm.toNat : Nat) : Int) = m.cm by omega, show (((bI m.y).toNat : Nat) : Int) = bI m.y by omega, hbi]
theorem rmsgS_eq (s : ByteArray) : rmsg s = match smsgR s with
    | some m => if m.show = s then (m, true) else (MsgV.zero, false)
    | none => (MsgV.zero, false) := by
  rcases rmsg_cases s with ⟨o, h, e⟩ | ⟨h, e⟩
  · rw [e, smsgR_of h]
    simp only
    rw [if_pos (show_of h)]
  · rw [e]
    split
    · rename_i o ho
      split
      · rename_i hc
        have hs : s ≠ ⟨#[]⟩ := by
          rintro rfl
          have : smsgR ⟨#[]⟩ = none := by
            unfold smsgR
            have : varsO 9 ((bytes ⟨#[]⟩).drop 4) = none := rfl
            rw [this, finV, if_pos (by omega)]
          rw [this] at ho; simp at ho
        exact absurd (show_at hc hs) (h _)
      · rfl
    · rfl
theorem sz109 : (#[109] : Array UInt8).size = 1 := rfl
theorem natD10 (n : Nat) : (n : Int) / 10 = ((n / 10 : Nat) : Int) := by omega
def mtx : Nat → Nat → ByteArray → ByteArray
  | 0, _, o => o
  | f + 1, k, o => if k = 0 then o else mtx f (k / 10) (strOfNums [48 + (k : Int) % 10] ++ o)
def markT (k : Int) : ByteArray := if k ≤ 0 then ⟨#[109, 48]⟩ else ⟨#[109]⟩ ++ mtx k.toNat k.toNat ⟨#[]⟩
theorem mtx_zero (f : Nat) (o : ByteArray) : mtx f 0 o = o := by cases f <;> simp [mtx]
theorem mtx_fuel : ∀ (f g k : Nat) (o : ByteArray), k ≤ f → k ≤ g → mtx f k o = mtx g k o
  | 0, g, k, o, h, _ => by rw [show k = 0 by omega, mtx_zero, mtx_zero]
  | f + 1, 0, k, o, _, h => by rw [show k = 0 by omega, mtx_zero, mtx_zero]
  | f + 1, g + 1, k, o, h, h2 => by
    simp only [mtx]
    split
    · rfl
    · exact mtx_fuel f g (k / 10) _ (by omega) (by omega)
theorem mtx_step {k : Nat} {o : ByteArray} (h : 0 < k) : mtx k k o = mtx (k / 10) (k / 10) (strOfNums [48 + (k : Int) % 10] ++ o) := by
  obtain ⟨f, rfl⟩ : ∃ f, k = f + 1 := ⟨k - 1, by omega⟩
  simp only [mtx]
  rw [if_neg (by omega)]
  exact mtx_fuel _ _ _ _ (by omega) (Nat.le_refl _)
theorem mtx_le : ∀ (f k : Nat) (o : ByteArray), (mtx f k o).size ≤ o.size + k
  | 0, k, o => by simp [mtx]
  | f + 1, k, o => by
    simp only [mtx]
    split
    · omega
    · have h := mtx_le f (k / 10) (strOfNums [48 + (k : Int) % 10] ++ o)
      rw [ByteArray.size_append, size_strOfNums] at h
      simp only [List.length_cons, List.length_nil] at h
      omega
attribute [push_cast] rowsI_length
def mark1 (k : Int) : EV := (k, markT (k + 1))
def markE (k : Int) : Nat → List EV
  | 0 => []
  | n + 1 => markE k n ++ [mark1 (k + 2 * n)]
theorem markE_len (k : Int) : ∀ n, (markE k n).length = n
  | 0 => rfl
  | n + 1 => by simp [markE, markE_len k n]
theorem rowsE_set0 {l : List EV} {i : Nat} {a : Int} (h : i < l.length) : setCells 2 (rowsE l) (i * 2) [.int .i64 a] = rowsE (l.set i (a, (l.getD i eZ).2)) := by
  have := setCells_row (sz := 2) (i := i) [.int .i64 a] (rowsE l) 0 _ (rowsE_get h) rfl (by simp)
  rw [Nat.add_zero] at this
  rw [this]
  simp [rowsE, List.map_set]
theorem rowsE_set1 {l : List EV} {i : Nat} {b : ByteArray} (h : i < l.length) : setCells 2 (rowsE l) (i * 2 + 1) [.str b] = rowsE (l.set i ((l.getD i eZ).1, b)) := by
  have := setCells_row (sz := 2) (i := i) [.str b] (rowsE l) 1 _ (rowsE_get h) rfl (by simp)
  rw [this]
  simp [rowsE, List.map_set]
theorem mark_step {l : List EV} {k : Int} {i : Nat} (h : i < l.length) : (markE k i ++ l.drop i).set i (k + 2 * (i : Int), markT (k + 2 * (i : Int) + 1)) = markE k (i + 1) ++ l.drop (i + 1) := by
  rw [List.set_append_right _ _ (by rw [markE_len]; omega), markE_len, Nat.sub_self, drop_getD eZ h, List.set_cons_zero]
  simp [markE, mark1]
theorem set_getD {l : List EV} {i : Nat} {x : EV} (h : i < l.length) : (l.set i x).getD i eZ = x := by simp [List.getD, h]
attribute [push_cast] rowsE_length
def heldE (k : Int) : List EV → Int
  | [] => k
  | p :: t => if p.1 = k ∧ p.2 = markT (k + 1) then heldE (k + 2) t else -1
theorem held_app (k : Int) : ∀ (n : Nat) (t : List EV), heldE k (markE k n ++ t) = heldE (k + 2 * n) t
  | 0, t => by simp [markE]
  | n + 1, t => by
    rw [markE, List.append_assoc, held_app k n]
    simp only [List.cons_append, List.nil_append, heldE, mark1]
    rw [if_pos (by simp), show k + 2 * (n : Int) + 2 = k + 2 * ((n + 1 : Nat) : Int) by omega]
theorem held_mark (k : Int) (n : Nat) : heldE k (markE k n) = k + 2 * n := by
  have := held_app k n []
  rw [List.append_nil] at this
  rw [this]; rfl
theorem held_no {k : Int} {l : List EV} {i : Nat} (h : i < l.length) (h2 : ¬((l.getD i eZ).1 = k ∧ (l.getD i eZ).2 = markT (k + 1))) : heldE k (l.drop i) = -1 := by
  rw [drop_getD eZ h, heldE, if_neg h2]
theorem held_yes {k : Int} {l : List EV} {i : Nat} (h : i < l.length) (h2 : (l.getD i eZ).1 = k ∧ (l.getD i eZ).2 = markT (k + 1)) : heldE k (l.drop i) = heldE (k + 2) (l.drop (i + 1)) := by
  rw [drop_getD eZ h, heldE, if_pos h2]
end Go.Eng
