/-
  Contracts of functions of the program, its reference and the laws: what each returns; the conditions stand in each theorem.
-/
import Derived.Test.YtlpapgmbknkmaaaFnA
set_option linter.unusedSimpArgs false
set_option linter.unusedVariables false
set_option maxRecDepth 100000
set_option maxHeartbeats 2000000
namespace Go.Eng
open Go Go.Proofs

theorem rtI_step {k i : Nat} {r : Rd} {a b : Int} {o : List Int} (h : i < 2) : rtI (k + 1) i r a b o = rtI k (i + 1) (rdNum r).2 (rdNum r).1 (w64 (b + (rdNum r).1)) (o ++ [w64 (b + (rdNum r).1)]) := by simp only [rtI]; rw [if_pos h]
theorem rtI_step2 {k i : Nat} {r : Rd} {a b : Int} {o : List Int} (h : ¬i < 2) : rtI (k + 1) i r a b o = rtI k (i + 1) (rdZag r).2 (w64 (a + (rdZag r).1)) (w64 (b + w64 (a + (rdZag r).1))) (o ++ [w64 (b + w64 (a + (rdZag r).1))]) := by simp only [rtI]; rw [if_neg h]
theorem finV_some {z : Nat} {v r : List Int} : finV z (some (v, r)) = z - r.length := rfl
theorem finV_none {z : Nat} : finV z none = -1 := rfl
theorem rtS_go {k i : Nat} {v o : List Int} {x : Int} (hx : rtNx i v o = x) (h1 : 0 ≤ x) (h2 : x ≤ 1099511627776) : rtS (k + 1) i v o = rtS k (i + 1) v (o ++ [x]) := by
  simp only [rtS, hx]; rw [if_pos ⟨h1, h2⟩]
theorem rtS_stop {k i : Nat} {v o : List Int} {x : Int} (hx : rtNx i v o = x) (h : x < 0 ∨ 1099511627776 < x) : rtS (k + 1) i v o = none := by
  simp only [rtS, hx]; rw [if_neg (by omega)]
theorem rvSp_go {k i : Nat} {v o : List Int} {b x : Int} (hx : w64 (b + uz (v.getD i 0)) = x) (h1 : -1099511627776 ≤ x) (h2 : x ≤ 1099511627776) : rvSp (k + 1) i v b o = rvSp k (i + 1) v x (o ++ [x]) := by
  simp only [rvSp, hx]; rw [if_pos ⟨h1, h2⟩]
theorem rvSp_stop {k i : Nat} {v o : List Int} {b x : Int} (hx : w64 (b + uz (v.getD i 0)) = x) (h : x < -1099511627776 ∨ 1099511627776 < x) : rvSp (k + 1) i v b o = none := by
  simp only [rvSp, hx]; rw [if_neg (by omega)]

theorem g90 (s : ByteArray) (n : Int) : Good Try.prog 90 [⟨.one, [.str s]⟩, ⟨.one, [.int .i64 n]⟩] [] (⟨.tup [(false, 1), (false, 1)], [.own 1 (rowsI (rtimes s n).1), .int .i64 (rtimes s n).2]⟩) [⟨.one, [.str s]⟩, ⟨.one, [.int .i64 n]⟩] [] := by
  refine Good_of (E := envOf [(32, c32), (81, c81), (124, c124), (126, c126), (125, c125)]) (envOk_of ⟨ctr32, ⟨ctr81, ⟨ctr124, ⟨ctr126, ⟨ctr125, trivial⟩⟩⟩⟩⟩) Try.func90 m90 rfl ?_
  simp (maxSteps := 1000000) (disch := omega) only [go_sem, wI, wB, x90, r90_0, r90_1, r90_2, r90_3, r90_4, r90_5, r90_6, r90_7, r90_8, r90_9, r90_11, r90_12, r90_10, r90_13, r90_14, r90_15, r90_16, r90_17, r90_18, r90_19, Int.toNat_natCast, natS1, natS2, rowsI_at, rowsI_at0, rowsI_get, rowsI_snoc, Nat.mul_one, Nat.div_one, Nat.mod_one]
  repeat' (first | ((with_reducible apply scEnd_of); exact rfl; exact rfl) | ((with_reducible apply ScW_of); rfl; rfl; trivial; (intro h; try simp only [HS] at h)) | ((with_reducible apply Br_of) <;> (intro h; (try simp only [h]); (try simp only [HS] at h))) | ((with_reducible first | refine Opt_put_if ?_ ?_ | refine Opt_if ?_ ?_); (· (first | omega | (refine ⟨?_, ?_⟩ <;> omega) | (refine ⟨?_, ?_, ?_⟩ <;> omega) | (refine ⟨rfl, ?_⟩; simp only [okBig, Bool.and_eq_true, decide_eq_true_eq]; omega)))) | ((with_reducible refine Opt_bind_ifn ?_ ?_); (· omega)) | ((with_reducible first | refine Opt_bind_if ?_ ?_ | refine Opt_ifb ?_ ?_); (· (first | omega | (refine ⟨?_, ?_⟩ <;> omega) | (refine ⟨?_, ?_, ?_⟩ <;> omega) | (refine ⟨rfl, ?_⟩; simp only [okBig, Bool.and_eq_true, decide_eq_true_eq]; omega)))) | simp (maxSteps := 1000000) (disch := omega) only [go_sem, wI, wB, Int.toNat_natCast, natS1, natS2, rowsI_at, rowsI_at0, rowsI_get, rowsI_snoc, Nat.mul_one, Nat.div_one, Nat.mod_one])
  · rw [← rtimesI_eq, rtimesI, if_neg (by omega)]; rfl
  · refine LoopK_of (α := Nat × Rd × Int × Int × List Int) (fun p => ⟨[(21, i64 p.1), (20, i64 n), (9, i64 p.2.2.2.1), (8, i64 p.2.2.1), (7, ⟨.one, [.own 1 (rowsI p.2.2.2.2)]⟩), (6, ⟨.one, [.ptr 18 0]⟩), (0, st1 s)], [(18, [.str p.2.1.s, .bool p.2.1.ok])], [(0, st1 s), (1, i64 n)]⟩) (fun p => p.1 ≤ n.toNat ∧ p.2.2.2.2.length = p.1 ∧ rtI (n.toNat - p.1) p.1 p.2.1 p.2.2.1 p.2.2.2.1 p.2.2.2.2 = rtI n.toNat 0 ⟨s, true⟩ 0 0 []) (fun p => n.toNat - p.1) (0, ⟨s, true⟩, 0, 0, []) rfl ⟨by simp, rfl, rfl⟩ ?_
    rintro ⟨i, ⟨rs, ro⟩, a, b, o⟩ ⟨h1, h2, h3⟩
    simp only at h1 h2 h3
    have hn := h
    simp (maxSteps := 1000000) (disch := omega) only [go_sem, wI, wB, x90, r90_0, r90_1, r90_2, r90_3, r90_4, r90_5, r90_6, r90_7, r90_8, r90_9, r90_11, r90_12, r90_10, r90_13, r90_14, r90_15, r90_16, r90_17, r90_18, r90_19, Int.toNat_natCast, natS1, natS2, rowsI_at, rowsI_at0, rowsI_get, rowsI_snoc, Nat.mul_one, Nat.div_one, Nat.mod_one, c126_eq]
    repeat' (first | ((with_reducible apply scEnd_of); exact rfl; exact rfl) | ((with_reducible apply ScW_of); rfl; rfl; trivial; (intro h; try simp only [HS] at h)) | ((with_reducible apply Br_of) <;> (intro h; (try simp only [h]); (try simp only [HS] at h))) | ((with_reducible first | refine Opt_put_if ?_ ?_ | refine Opt_if ?_ ?_); (· (first | omega | (refine ⟨?_, ?_⟩ <;> omega) | (refine ⟨?_, ?_, ?_⟩ <;> omega) | (refine ⟨rfl, ?_⟩; simp only [okBig, Bool.and_eq_true, decide_eq_true_eq]; omega) | (refine Nat.le_trans (Nat.add_le_add_left (varS_le _) _) ?_; simp only [size_strOfNums, List.length_cons, List.length_nil, rowsI_length]; omega) | (refine ⟨rfl, ?_⟩; simp only [okBig, Bool.and_eq_true, decide_eq_true_eq, size_strOfNums, List.length_cons, List.length_nil, rowsI_length]; omega) | (simp only [size_strOfNums, List.length_cons, List.length_nil, rowsI_length]; omega)))) | ((with_reducible refine Opt_bind_ifn ?_ ?_); (· omega)) | ((with_reducible first | refine Opt_bind_if ?_ ?_ | refine Opt_ifb ?_ ?_); (· (first | omega | (refine ⟨?_, ?_⟩ <;> omega) | (refine ⟨?_, ?_, ?_⟩ <;> omega) | (refine ⟨rfl, ?_⟩; simp only [okBig, Bool.and_eq_true, decide_eq_true_eq]; omega) | (refine Nat.le_trans (Nat.add_le_add_left (varS_le _) _) ?_; simp only [size_strOfNums, List.length_cons, List.length_nil, rowsI_length]; omega) | (refine ⟨rfl, ?_⟩; simp only [okBig, Bool.and_eq_true, decide_eq_true_eq, size_strOfNums, List.length_cons, List.length_nil, rowsI_length]; omega) | (simp only [size_strOfNums, List.length_cons, List.length_nil, rowsI_length]; omega)))) | simp (maxSteps := 1000000) (disch := omega) only [go_sem, wI, wB, Int.toNat_natCast, natS1, natS2, rowsI_at, rowsI_at0, rowsI_get, rowsI_snoc, Nat.mul_one, Nat.div_one, Nat.mod_one, c126_eq])
    · rw [show n.toNat - i = (n.toNat - (i + 1)) + 1 by omega, rtI_step (by omega)] at h3
      exact LoopQ_of (i + 1, (rdNum ⟨rs, ro⟩).2, (rdNum ⟨rs, ro⟩).1, w64 (b + (rdNum ⟨rs, ro⟩).1), o ++ [w64 (b + (rdNum ⟨rs, ro⟩).1)]) rfl ⟨by simp only; omega, by simp [h2], h3⟩ (by simp only; omega)
    · rw [show n.toNat - i = (n.toNat - (i + 1)) + 1 by omega, rtI_step2 (by omega)] at h3
      exact LoopQ_of (i + 1, (rdZag ⟨rs, ro⟩).2, w64 (a + (rdZag ⟨rs, ro⟩).1), w64 (b + w64 (a + (rdZag ⟨rs, ro⟩).1)), o ++ [w64 (b + w64 (a + (rdZag ⟨rs, ro⟩).1))]) rfl ⟨by simp only; omega, by simp [h2], h3⟩ (by simp only; omega)
    · rw [show n.toNat - i = 0 by omega] at h3
      simp only [rtI] at h3
      rw [← rtimesI_eq, rtimesI, if_pos hn, ← h3]
      rcases h with h | h | h <;> simp [h, rowsI]
    · rw [show n.toNat - i = 0 by omega] at h3
      simp only [rtI] at h3
      rw [← rtimesI_eq, rtimesI, if_pos hn, ← h3]
      simp [h.1, h.2.1, h.2.2]
noncomputable def c90 : List SV → Refs → Option (SV × List SV × Refs)
  | [⟨.one, [.str s]⟩, ⟨.one, [.int .i64 n]⟩], [] => some (⟨.tup [(false, 1), (false, 1)], [.own 1 (rowsI (rtimes s n).1), .int .i64 (rtimes s n).2]⟩, [⟨.one, [.str s]⟩, ⟨.one, [.int .i64 n]⟩], [])
  | _, _ => none
theorem ctr90 : Ctr Try.prog 90 c90 := by
  refine ⟨k90, fun args rf res args' rf' h => ?_⟩
  unfold c90 at h
  split at h
  · simp only [Option.some.injEq, Prod.mk.injEq] at h
    obtain ⟨rfl, rfl, rfl⟩ := h
    exact g90 _ _
  · simp at h
@[go_sem] theorem c90_eq {s : ByteArray} {n : Int} : c90 [⟨.one, [.str s]⟩, ⟨.one, [.int .i64 n]⟩] [] = some (⟨.tup [(false, 1), (false, 1)], [.own 1 (rowsI (rtimes s n).1), .int .i64 (rtimes s n).2]⟩, [⟨.one, [.str s]⟩, ⟨.one, [.int .i64 n]⟩], []) := rfl

theorem g91 (s : ByteArray) (n : Int) : Good Try.prog 91 [⟨.one, [.str s]⟩, ⟨.one, [.int .i64 n]⟩] [] (⟨.tup [(false, 1), (false, 1)], [.own 1 (rowsI (rvalues s n).1), .int .i64 (rvalues s n).2]⟩) [⟨.one, [.str s]⟩, ⟨.one, [.int .i64 n]⟩] [] := by
  refine Good_of (E := envOf [(32, c32), (124, c124), (127, c127), (125, c125)]) (envOk_of ⟨ctr32, ⟨ctr124, ⟨ctr127, ⟨ctr125, trivial⟩⟩⟩⟩) Try.func91 m91 rfl ?_
  simp (maxSteps := 1000000) (disch := omega) only [go_sem, wI, wB, x91, r91_0, r91_1, r91_2, r91_3, r91_4, r91_5, r91_6, r91_7, r91_8, r91_9, r91_10, r91_11, r91_12, r91_13, r91_14, Int.toNat_natCast, natS1, natS2, rowsI_at, rowsI_at0, rowsI_get, rowsI_snoc, Nat.mul_one, Nat.div_one, Nat.mod_one]
  repeat' (first | ((with_reducible apply scEnd_of); exact rfl; exact rfl) | ((with_reducible apply ScW_of); rfl; rfl; trivial; (intro h; try simp only [HS] at h)) | ((with_reducible apply Br_of) <;> (intro h; (try simp only [h]); (try simp only [HS] at h))) | ((with_reducible first | refine Opt_put_if ?_ ?_ | refine Opt_if ?_ ?_); (· (first | omega | (refine ⟨?_, ?_⟩ <;> omega) | (refine ⟨?_, ?_, ?_⟩ <;> omega) | (refine ⟨rfl, ?_⟩; simp only [okBig, Bool.and_eq_true, decide_eq_true_eq]; omega)))) | ((with_reducible refine Opt_bind_ifn ?_ ?_); (· omega)) | ((with_reducible first | refine Opt_bind_if ?_ ?_ | refine Opt_ifb ?_ ?_); (· (first | omega | (refine ⟨?_, ?_⟩ <;> omega) | (refine ⟨?_, ?_, ?_⟩ <;> omega) | (refine ⟨rfl, ?_⟩; simp only [okBig, Bool.and_eq_true, decide_eq_true_eq]; omega)))) | simp (maxSteps := 1000000) (disch := omega) only [go_sem, wI, wB, Int.toNat_natCast, natS1, natS2, rowsI_at, rowsI_at0, rowsI_get, rowsI_snoc, Nat.mul_one, Nat.div_one, Nat.mod_one])
  · rw [← rvaluesI_eq, rvaluesI, if_neg (by omega)]; rfl
  · refine LoopK_of (α := Nat × Rd × Int × List Int) (fun p => ⟨[(19, i64 p.1), (18, i64 n), (8, i64 p.2.2.1), (7, ⟨.one, [.own 1 (rowsI p.2.2.2)]⟩), (6, ⟨.one, [.ptr 16 0]⟩), (0, st1 s)], [(16, [.str p.2.1.s, .bool p.2.1.ok])], [(0, st1 s), (1, i64 n)]⟩) (fun p => p.1 ≤ n.toNat ∧ p.2.2.2.length = p.1 ∧ rvI (n.toNat - p.1) p.2.1 p.2.2.1 p.2.2.2 = rvI n.toNat ⟨s, true⟩ 0 []) (fun p => n.toNat - p.1) (0, ⟨s, true⟩, 0, []) rfl ⟨by simp, rfl, rfl⟩ ?_
    rintro ⟨i, ⟨rs, ro⟩, a, o⟩ ⟨h1, h2, h3⟩
    simp only at h1 h2 h3
    have hn := h
    simp (maxSteps := 1000000) (disch := omega) only [go_sem, wI, wB, x91, r91_0, r91_1, r91_2, r91_3, r91_4, r91_5, r91_6, r91_7, r91_8, r91_9, r91_10, r91_11, r91_12, r91_13, r91_14, Int.toNat_natCast, natS1, natS2, rowsI_at, rowsI_at0, rowsI_get, rowsI_snoc, Nat.mul_one, Nat.div_one, Nat.mod_one, c127_eq]
    repeat' (first | ((with_reducible apply scEnd_of); exact rfl; exact rfl) | ((with_reducible apply ScW_of); rfl; rfl; trivial; (intro h; try simp only [HS] at h)) | ((with_reducible apply Br_of) <;> (intro h; (try simp only [h]); (try simp only [HS] at h))) | ((with_reducible first | refine Opt_put_if ?_ ?_ | refine Opt_if ?_ ?_); (· (first | omega | (refine ⟨?_, ?_⟩ <;> omega) | (refine ⟨?_, ?_, ?_⟩ <;> omega) | (refine ⟨rfl, ?_⟩; simp only [okBig, Bool.and_eq_true, decide_eq_true_eq]; omega) | (refine Nat.le_trans (Nat.add_le_add_left (varS_le _) _) ?_; simp only [size_strOfNums, List.length_cons, List.length_nil, rowsI_length]; omega) | (refine ⟨rfl, ?_⟩; simp only [okBig, Bool.and_eq_true, decide_eq_true_eq, size_strOfNums, List.length_cons, List.length_nil, rowsI_length]; omega) | (simp only [size_strOfNums, List.length_cons, List.length_nil, rowsI_length]; omega)))) | ((with_reducible refine Opt_bind_ifn ?_ ?_); (· omega)) | ((with_reducible first | refine Opt_bind_if ?_ ?_ | refine Opt_ifb ?_ ?_); (· (first | omega | (refine ⟨?_, ?_⟩ <;> omega) | (refine ⟨?_, ?_, ?_⟩ <;> omega) | (refine ⟨rfl, ?_⟩; simp only [okBig, Bool.and_eq_true, decide_eq_true_eq]; omega) | (refine Nat.le_trans (Nat.add_le_add_left (varS_le _) _) ?_; simp only [size_strOfNums, List.length_cons, List.length_nil, rowsI_length]; omega) | (refine ⟨rfl, ?_⟩; simp only [okBig, Bool.and_eq_true, decide_eq_true_eq, size_strOfNums, List.length_cons, List.length_nil, rowsI_length]; omega) | (simp only [size_strOfNums, List.length_cons, List.length_nil, rowsI_length]; omega)))) | simp (maxSteps := 1000000) (disch := omega) only [go_sem, wI, wB, Int.toNat_natCast, natS1, natS2, rowsI_at, rowsI_at0, rowsI_get, rowsI_snoc, Nat.mul_one, Nat.div_one, Nat.mod_one, c127_eq])
    · rw [show n.toNat - i = (n.toNat - (i + 1)) + 1 by omega, rvI] at h3
      exact LoopQ_of (i + 1, (rdZag ⟨rs, ro⟩).2, w64 (a + (rdZag ⟨rs, ro⟩).1), o ++ [w64 (a + (rdZag ⟨rs, ro⟩).1)]) rfl ⟨by simp only; omega, by simp [h2], h3⟩ (by simp only; omega)
    · rw [show n.toNat - i = 0 by omega] at h3
      simp only [rvI] at h3
      rw [← rvaluesI_eq, rvaluesI, if_pos hn, ← h3]
      rcases h with h | h | h <;> simp [h, rowsI]
    · rw [show n.toNat - i = 0 by omega] at h3
      simp only [rvI] at h3
      rw [← rvaluesI_eq, rvaluesI, if_pos hn, ← h3]
      simp [h.1, h.2.1, h.2.2]
noncomputable def c91 : List SV → Refs → Option (SV × List SV × Refs)
  | [⟨.one, [.str s]⟩, ⟨.one, [.int .i64 n]⟩], [] => some (⟨.tup [(false, 1), (false, 1)], [.own 1 (rowsI (rvalues s n).1), .int .i64 (rvalues s n).2]⟩, [⟨.one, [.str s]⟩, ⟨.one, [.int .i64 n]⟩], [])
  | _, _ => none
theorem ctr91 : Ctr Try.prog 91 c91 := by
  refine ⟨k91, fun args rf res args' rf' h => ?_⟩
  unfold c91 at h
  split at h
  · simp only [Option.some.injEq, Prod.mk.injEq] at h
    obtain ⟨rfl, rfl, rfl⟩ := h
    exact g91 _ _
  · simp at h
@[go_sem] theorem c91_eq {s : ByteArray} {n : Int} : c91 [⟨.one, [.str s]⟩, ⟨.one, [.int .i64 n]⟩] [] = some (⟨.tup [(false, 1), (false, 1)], [.own 1 (rowsI (rvalues s n).1), .int .i64 (rvalues s n).2]⟩, [⟨.one, [.str s]⟩, ⟨.one, [.int .i64 n]⟩], []) := rfl

theorem g120 (s : ByteArray) (n : Int) (hyp : s.size ≤ 9223372036854775807) : Good Try.prog 120 [⟨.one, [.str s]⟩, ⟨.one, [.int .i64 n]⟩] [] (⟨.tup [(false, 1), (false, 1)], [.own 1 (rowsI (rtimes s n).1), .int .i64 (rtimes s n).2]⟩) [⟨.one, [.str s]⟩, ⟨.one, [.int .i64 n]⟩] [] := by
  refine Good_of (E := envOf [(36, c36), (140, c140), (141, c141), (142, c142)]) (envOk_of ⟨ctr36, ⟨ctr140, ⟨ctr141, ⟨ctr142, trivial⟩⟩⟩⟩) Try.func120 m120 rfl ?_
  by_cases hn : 1 ≤ n ∧ n ≤ 60
  · rcases hq : varsO n.toNat (bytes s) with _ | ⟨v, r⟩
    · simp (maxSteps := 1000000) (disch := omega) only [go_sem, wI, wB, x120, r120_0, r120_1, r120_2, r120_3, r120_4, r120_5, r120_6, r120_7, r120_8, r120_9, r120_11, r120_12, r120_13v, r120_13t, r120_14, r120_15, r120_16, r120_17, r120_10, r120_18v, r120_18t, r120_19, r120_20, Int.toNat_natCast, natS1, natS2, rowsI_at, rowsI_at0, rowsI_get, rowsI_snoc, Nat.mul_one, Nat.div_one, Nat.mod_one, c140_eq]
      repeat' (first | ((with_reducible apply scEnd_of); exact rfl; exact rfl) | ((with_reducible apply ScW_of); rfl; rfl; trivial; (intro h; try simp only [HS] at h)) | ((with_reducible apply Br_of) <;> (intro h; (try simp only [h]); (try simp only [HS] at h))) | ((with_reducible first | refine Opt_put_if ?_ ?_ | refine Opt_if ?_ ?_); (· (first | omega | (refine ⟨?_, ?_⟩ <;> omega) | (refine ⟨?_, ?_, ?_⟩ <;> omega) | (refine ⟨rfl, ?_⟩; simp only [okBig, Bool.and_eq_true, decide_eq_true_eq]; omega)))) | ((with_reducible refine Opt_bind_ifn ?_ ?_); (· omega)) | ((with_reducible first | refine Opt_bind_if ?_ ?_ | refine Opt_ifb ?_ ?_); (· (first | omega | (refine ⟨?_, ?_⟩ <;> omega) | (refine ⟨?_, ?_, ?_⟩ <;> omega) | (refine ⟨rfl, ?_⟩; simp only [okBig, Bool.and_eq_true, decide_eq_true_eq]; omega)))) | simp (maxSteps := 1000000) (disch := omega) only [go_sem, wI, wB, Int.toNat_natCast, natS1, natS2, rowsI_at, rowsI_at0, rowsI_get, rowsI_snoc, Nat.mul_one, Nat.div_one, Nat.mod_one, c140_eq, hq, finV_none])
      · omega
      · rw [← rtimesS_eq, rtimesS, if_pos hn, hq]; rfl
    · have hv := varsV_of _ _ _ _ hq
      obtain ⟨v1, v2, v3⟩ := varsO_some _ _ _ _ (isB_bytes s) hq
      have v4 := congrArg List.length v3
      rw [List.length_append, bytes_length] at v4
      have hS : rtimes s n = match rtS (n.toNat - 1) 1 v [v.getD 0 0] with | some out => if timesS out = s.extract 0 (s.size - r.length) then (out, ((s.size - r.length : Nat) : Int)) else ([], 0) | none => ([], 0) := by rw [← rtimesS_eq, rtimesS, if_pos hn, hq]; rfl
      have ez : ((s.size : Int) - r.length).toNat = s.size - r.length := by omega
      have ez2 : ((s.size - r.length : Nat) : Int) = (s.size : Int) - r.length := by omega
      simp (maxSteps := 1000000) (disch := omega) only [go_sem, wI, wB, x120, r120_0, r120_1, r120_2, r120_3, r120_4, r120_5, r120_6, r120_7, r120_8, r120_9, r120_11, r120_12, r120_13v, r120_13t, r120_14, r120_15, r120_16, r120_17, r120_10, r120_18v, r120_18t, r120_19, r120_20, Int.toNat_natCast, natS1, natS2, rowsI_at, rowsI_at0, rowsI_get, rowsI_snoc, Nat.mul_one, Nat.div_one, Nat.mod_one, c140_eq]
      repeat' (first | ((with_reducible apply scEnd_of); exact rfl; exact rfl) | ((with_reducible apply ScW_of); rfl; rfl; trivial; (intro h; try simp only [HS] at h)) | ((with_reducible apply Br_of) <;> (intro h; (try simp only [h]); (try simp only [HS] at h))) | ((with_reducible first | refine Opt_put_if ?_ ?_ | refine Opt_if ?_ ?_); (· (first | omega | (refine ⟨?_, ?_⟩ <;> omega) | (refine ⟨?_, ?_, ?_⟩ <;> omega) | (refine ⟨rfl, ?_⟩; simp only [okBig, Bool.and_eq_true, decide_eq_true_eq]; omega)))) | ((with_reducible refine Opt_bind_ifn ?_ ?_); (· omega)) | ((with_reducible first | refine Opt_bind_if ?_ ?_ | refine Opt_ifb ?_ ?_); (· (first | omega | (refine ⟨?_, ?_⟩ <;> omega) | (refine ⟨?_, ?_, ?_⟩ <;> omega) | (refine ⟨rfl, ?_⟩; simp only [okBig, Bool.and_eq_true, decide_eq_true_eq]; omega)))) | simp (maxSteps := 1000000) (disch := omega) only [go_sem, wI, wB, Int.toNat_natCast, natS1, natS2, rowsI_at, rowsI_at0, rowsI_get, rowsI_snoc, Nat.mul_one, Nat.div_one, Nat.mod_one, c140_eq, hq, hv, finV_some])
      all_goals (try (exfalso; omega))
      · refine LoopK_of (α := Nat × List Int) (fun p => ⟨[(10, i64 p.1), (9, ⟨.one, [.own 1 (rowsI p.2)]⟩), (8, i64 ((s.size : Int) - r.length)), (7, ⟨.one, [.own 1 (rowsI v)]⟩), (6, ⟨.one, [.own 1 []]⟩), (1, i64 n), (0, st1 s)], [], [(0, st1 s), (1, i64 n)]⟩) (fun p => 1 ≤ p.1 ∧ p.1 ≤ n.toNat ∧ p.2.length = p.1 ∧ rtS (n.toNat - p.1) p.1 v p.2 = rtS (n.toNat - 1) 1 v [v.getD 0 0]) (fun p => n.toNat - p.1) (1, [v.getD 0 0]) rfl ⟨by simp, by simp only; omega, rfl, rfl⟩ ?_
        rintro ⟨i, o⟩ ⟨h0, h1, h2, h3⟩
        simp only at h0 h1 h2 h3
        simp (maxSteps := 1000000) (disch := omega) only [go_sem, wI, wB, x120, r120_0, r120_1, r120_2, r120_3, r120_4, r120_5, r120_6, r120_7, r120_8, r120_9, r120_11, r120_12, r120_13v, r120_13t, r120_14, r120_15, r120_16, r120_17, r120_10, r120_18v, r120_18t, r120_19, r120_20, Int.toNat_natCast, natS1, natS2, rowsI_at, rowsI_at0, rowsI_get, rowsI_snoc, Nat.mul_one, Nat.div_one, Nat.mod_one, c140_eq]
        repeat' (first | ((with_reducible apply scEnd_of); exact rfl; exact rfl) | ((with_reducible apply ScW_of); rfl; rfl; trivial; (intro h; try simp only [HS] at h)) | ((with_reducible apply Br_of) <;> (intro h; (try simp only [h]); (try simp only [HS] at h))) | ((with_reducible first | refine Opt_put_if ?_ ?_ | refine Opt_if ?_ ?_); (· (first | omega | (refine ⟨?_, ?_⟩ <;> omega) | (refine ⟨?_, ?_, ?_⟩ <;> omega) | (refine ⟨rfl, ?_⟩; simp only [okBig, Bool.and_eq_true, decide_eq_true_eq]; omega) | (refine Nat.le_trans (Nat.add_le_add_left (varS_le _) _) ?_; simp only [size_strOfNums, List.length_cons, List.length_nil, rowsI_length]; omega) | (refine ⟨rfl, ?_⟩; simp only [okBig, Bool.and_eq_true, decide_eq_true_eq, size_strOfNums, List.length_cons, List.length_nil, rowsI_length]; omega) | (simp only [size_strOfNums, List.length_cons, List.length_nil, rowsI_length]; omega)))) | ((with_reducible refine Opt_bind_ifn ?_ ?_); (· omega)) | ((with_reducible first | refine Opt_bind_if ?_ ?_ | refine Opt_ifb ?_ ?_); (· (first | omega | (refine ⟨?_, ?_⟩ <;> omega) | (refine ⟨?_, ?_, ?_⟩ <;> omega) | (refine ⟨rfl, ?_⟩; simp only [okBig, Bool.and_eq_true, decide_eq_true_eq]; omega) | (refine Nat.le_trans (Nat.add_le_add_left (varS_le _) _) ?_; simp only [size_strOfNums, List.length_cons, List.length_nil, rowsI_length]; omega) | (refine ⟨rfl, ?_⟩; simp only [okBig, Bool.and_eq_true, decide_eq_true_eq, size_strOfNums, List.length_cons, List.length_nil, rowsI_length]; omega) | (simp only [size_strOfNums, List.length_cons, List.length_nil, rowsI_length]; omega)))) | simp (maxSteps := 1000000) (disch := omega) only [go_sem, wI, wB, Int.toNat_natCast, natS1, natS2, rowsI_at, rowsI_at0, rowsI_get, rowsI_snoc, Nat.mul_one, Nat.div_one, Nat.mod_one, c140_eq])
        · rw [show n.toNat - i = (n.toNat - (i + 1)) + 1 by omega, rtS_stop (by unfold rtNx; rw [if_pos (by omega)]; rfl) h] at h3
          rw [hS, ← h3]; rfl
        · rw [show n.toNat - i = (n.toNat - (i + 1)) + 1 by omega, rtS_go (by unfold rtNx; rw [if_pos (by omega)]; rfl) h.1 h.2] at h3
          exact LoopQ_of (i + 1, o ++ [_]) rfl ⟨by simp only; omega, by simp only; omega, by simp [h2], h3⟩ (by simp only; omega)
        · rw [show n.toNat - i = (n.toNat - (i + 1)) + 1 by omega, rtS_stop (by unfold rtNx; rw [if_neg (by omega)]; rfl) h] at h3
          rw [hS, ← h3]; rfl
        · rw [show n.toNat - i = (n.toNat - (i + 1)) + 1 by omega, rtS_go (by unfold rtNx; rw [if_neg (by omega)]; rfl) h.1 h.2] at h3
          exact LoopQ_of (i + 1, o ++ [_]) rfl ⟨by simp only; omega, by simp only; omega, by simp [h2], h3⟩ (by simp only; omega)
        · rw [show n.toNat - i = 0 by omega, rtS] at h3
          rw [ez] at h
          rw [hS, ← h3]; simp only; rw [if_neg h]; rfl
        · rw [show n.toNat - i = 0 by omega, rtS] at h3
          rw [ez] at h
          rw [hS, ← h3]; simp only; rw [if_pos h, ez2]
  · simp (maxSteps := 1000000) (disch := omega) only [go_sem, wI, wB, x120, r120_0, r120_1, r120_2, r120_3, r120_4, r120_5, r120_6, r120_7, r120_8, r120_9, r120_11, r120_12, r120_13v, r120_13t, r120_14, r120_15, r120_16, r120_17, r120_10, r120_18v, r120_18t, r120_19, r120_20, Int.toNat_natCast, natS1, natS2, rowsI_at, rowsI_at0, rowsI_get, rowsI_snoc, Nat.mul_one, Nat.div_one, Nat.mod_one, c140_eq]
    repeat' (first | ((with_reducible apply scEnd_of); exact rfl; exact rfl) | ((with_reducible apply ScW_of); rfl; rfl; trivial; (intro h; try simp only [HS] at h)) | ((with_reducible apply Br_of) <;> (intro h; (try simp only [h]); (try simp only [HS] at h))) | ((with_reducible first | refine Opt_put_if ?_ ?_ | refine Opt_if ?_ ?_); (· (first | omega | (refine ⟨?_, ?_⟩ <;> omega) | (refine ⟨?_, ?_, ?_⟩ <;> omega) | (refine ⟨rfl, ?_⟩; simp only [okBig, Bool.and_eq_true, decide_eq_true_eq]; omega)))) | ((with_reducible refine Opt_bind_ifn ?_ ?_); (· omega)) | ((with_reducible first | refine Opt_bind_if ?_ ?_ | refine Opt_ifb ?_ ?_); (· (first | omega | (refine ⟨?_, ?_⟩ <;> omega) | (refine ⟨?_, ?_, ?_⟩ <;> omega) | (refine ⟨rfl, ?_⟩; simp only [okBig, Bool.and_eq_true, decide_eq_true_eq]; omega)))) | simp (maxSteps := 1000000) (disch := omega) only [go_sem, wI, wB, Int.toNat_natCast, natS1, natS2, rowsI_at, rowsI_at0, rowsI_get, rowsI_snoc, Nat.mul_one, Nat.div_one, Nat.mod_one, c140_eq])
    · rw [← rtimesS_eq, rtimesS, if_neg hn]; rfl
    · omega
noncomputable def c120 : List SV → Refs → Option (SV × List SV × Refs)
  | [⟨.one, [.str s]⟩, ⟨.one, [.int .i64 n]⟩], [] => (open Classical in if s.size ≤ 9223372036854775807 then some (⟨.tup [(false, 1), (false, 1)], [.own 1 (rowsI (rtimes s n).1), .int .i64 (rtimes s n).2]⟩, [⟨.one, [.str s]⟩, ⟨.one, [.int .i64 n]⟩], []) else none)
  | _, _ => none
theorem ctr120 : Ctr Try.prog 120 c120 := by
  refine ⟨k120, fun args rf res args' rf' h => ?_⟩
  unfold c120 at h
  split at h
  · split at h
    · rename_i hyp
      simp only [Option.some.injEq, Prod.mk.injEq] at h
      obtain ⟨rfl, rfl, rfl⟩ := h
      exact g120 _ _ hyp
    · simp at h
  · simp at h
theorem c120_eq {s : ByteArray} {n : Int} (hyp : s.size ≤ 9223372036854775807) : c120 [⟨.one, [.str s]⟩, ⟨.one, [.int .i64 n]⟩] [] = some (⟨.tup [(false, 1), (false, 1)], [.own 1 (rowsI (rtimes s n).1), .int .i64 (rtimes s n).2]⟩, [⟨.one, [.str s]⟩, ⟨.one, [.int .i64 n]⟩], []) := if_pos hyp

theorem g121 (s : ByteArray) (n : Int) (hyp : s.size ≤ 9223372036854775807) : Good Try.prog 121 [⟨.one, [.str s]⟩, ⟨.one, [.int .i64 n]⟩] [] (⟨.tup [(false, 1), (false, 1)], [.own 1 (rowsI (rvalues s n).1), .int .i64 (rvalues s n).2]⟩) [⟨.one, [.str s]⟩, ⟨.one, [.int .i64 n]⟩] [] := by
  refine Good_of (E := envOf [(36, c36), (140, c140), (141, c141), (143, c143)]) (envOk_of ⟨ctr36, ⟨ctr140, ⟨ctr141, ⟨ctr143, trivial⟩⟩⟩⟩) Try.func121 m121 rfl ?_
  by_cases hn : 1 ≤ n ∧ n ≤ 60
  · rcases hq : varsO n.toNat (bytes s) with _ | ⟨v, r⟩
    · simp (maxSteps := 1000000) (disch := omega) only [go_sem, wI, wB, x121, r121_0, r121_1, r121_2, r121_3, r121_4, r121_5, r121_6, r121_7, r121_8, r121_9, r121_10, r121_12, r121_13, r121_14, r121_15, r121_11, r121_16v, r121_16t, r121_17, r121_18, Int.toNat_natCast, natS1, natS2, rowsI_at, rowsI_at0, rowsI_get, rowsI_snoc, Nat.mul_one, Nat.div_one, Nat.mod_one, c140_eq]
      repeat' (first | ((with_reducible apply scEnd_of); exact rfl; exact rfl) | ((with_reducible apply ScW_of); rfl; rfl; trivial; (intro h; try simp only [HS] at h)) | ((with_reducible apply Br_of) <;> (intro h; (try simp only [h]); (try simp only [HS] at h))) | ((with_reducible first | refine Opt_put_if ?_ ?_ | refine Opt_if ?_ ?_); (· (first | omega | (refine ⟨?_, ?_⟩ <;> omega) | (refine ⟨?_, ?_, ?_⟩ <;> omega) | (refine ⟨rfl, ?_⟩; simp only [okBig, Bool.and_eq_true, decide_eq_true_eq]; omega)))) | ((with_reducible refine Opt_bind_ifn ?_ ?_); (· omega)) | ((with_reducible first | refine Opt_bind_if ?_ ?_ | refine Opt_ifb ?_ ?_); (· (first | omega | (refine ⟨?_, ?_⟩ <;> omega) | (refine ⟨?_, ?_, ?_⟩ <;> omega) | (refine ⟨rfl, ?_⟩; simp only [okBig, Bool.and_eq_true, decide_eq_true_eq]; omega)))) | simp (maxSteps := 1000000) (disch := omega) only [go_sem, wI, wB, Int.toNat_natCast, natS1, natS2, rowsI_at, rowsI_at0, rowsI_get, rowsI_snoc, Nat.mul_one, Nat.div_one, Nat.mod_one, c140_eq, hq, finV_none])
      · omega
      · rw [← rvaluesS_eq, rvaluesS, if_pos hn, hq]; rfl
    · have hv := varsV_of _ _ _ _ hq
      obtain ⟨v1, v2, v3⟩ := varsO_some _ _ _ _ (isB_bytes s) hq
      have v4 := congrArg List.length v3
      rw [List.length_append, bytes_length] at v4
      have hS : rvalues s n = match rvSp n.toNat 0 v 0 [] with | some out => if valuesS out = s.extract 0 (s.size - r.length) then (out, ((s.size - r.length : Nat) : Int)) else ([], 0) | none => ([], 0) := by rw [← rvaluesS_eq, rvaluesS, if_pos hn, hq]; rfl
      have ez : ((s.size : Int) - r.length).toNat = s.size - r.length := by omega
      have ez2 : ((s.size - r.length : Nat) : Int) = (s.size : Int) - r.length := by omega
      simp (maxSteps := 1000000) (disch := omega) only [go_sem, wI, wB, x121, r121_0, r121_1, r121_2, r121_3, r121_4, r121_5, r121_6, r121_7, r121_8, r121_9, r121_10, r121_12, r121_13, r121_14, r121_15, r121_11, r121_16v, r121_16t, r121_17, r121_18, Int.toNat_natCast, natS1, natS2, rowsI_at, rowsI_at0, rowsI_get, rowsI_snoc, Nat.mul_one, Nat.div_one, Nat.mod_one, c140_eq]
      repeat' (first | ((with_reducible apply scEnd_of); exact rfl; exact rfl) | ((with_reducible apply ScW_of); rfl; rfl; trivial; (intro h; try simp only [HS] at h)) | ((with_reducible apply Br_of) <;> (intro h; (try simp only [h]); (try simp only [HS] at h))) | ((with_reducible first | refine Opt_put_if ?_ ?_ | refine Opt_if ?_ ?_); (· (first | omega | (refine ⟨?_, ?_⟩ <;> omega) | (refine ⟨?_, ?_, ?_⟩ <;> omega) | (refine ⟨rfl, ?_⟩; simp only [okBig, Bool.and_eq_true, decide_eq_true_eq]; omega)))) | ((with_reducible refine Opt_bind_ifn ?_ ?_); (· omega)) | ((with_reducible first | refine Opt_bind_if ?_ ?_ | refine Opt_ifb ?_ ?_); (· (first | omega | (refine ⟨?_, ?_⟩ <;> omega) | (refine ⟨?_, ?_, ?_⟩ <;> omega) | (refine ⟨rfl, ?_⟩; simp only [okBig, Bool.and_eq_true, decide_eq_true_eq]; omega)))) | simp (maxSteps := 1000000) (disch := omega) only [go_sem, wI, wB, Int.toNat_natCast, natS1, natS2, rowsI_at, rowsI_at0, rowsI_get, rowsI_snoc, Nat.mul_one, Nat.div_one, Nat.mod_one, c140_eq, hq, hv, finV_some])
      all_goals (try (exfalso; omega))
      · refine LoopK_of (α := Nat × Int × List Int) (fun p => ⟨[(11, i64 p.1), (10, i64 p.2.1), (9, ⟨.one, [.own 1 (rowsI p.2.2)]⟩), (8, i64 ((s.size : Int) - r.length)), (7, ⟨.one, [.own 1 (rowsI v)]⟩), (6, ⟨.one, [.own 1 []]⟩), (1, i64 n), (0, st1 s)], [], [(0, st1 s), (1, i64 n)]⟩) (fun p => 0 ≤ p.1 ∧ p.1 ≤ n.toNat ∧ p.2.2.length = p.1 ∧ rvSp (n.toNat - p.1) p.1 v p.2.1 p.2.2 = rvSp n.toNat 0 v 0 []) (fun p => n.toNat - p.1) (0, 0, []) rfl ⟨by simp, by simp only; omega, rfl, rfl⟩ ?_
        rintro ⟨i, b, o⟩ ⟨h0, h1, h2, h3⟩
        simp only at h0 h1 h2 h3
        simp (maxSteps := 1000000) (disch := omega) only [go_sem, wI, wB, x121, r121_0, r121_1, r121_2, r121_3, r121_4, r121_5, r121_6, r121_7, r121_8, r121_9, r121_10, r121_12, r121_13, r121_14, r121_15, r121_11, r121_16v, r121_16t, r121_17, r121_18, Int.toNat_natCast, natS1, natS2, rowsI_at, rowsI_at0, rowsI_get, rowsI_snoc, Nat.mul_one, Nat.div_one, Nat.mod_one, c140_eq]
        repeat' (first | ((with_reducible apply scEnd_of); exact rfl; exact rfl) | ((with_reducible apply ScW_of); rfl; rfl; trivial; (intro h; try simp only [HS] at h)) | ((with_reducible apply Br_of) <;> (intro h; (try simp only [h]); (try simp only [HS] at h))) | ((with_reducible first | refine Opt_put_if ?_ ?_ | refine Opt_if ?_ ?_); (· (first | omega | (refine ⟨?_, ?_⟩ <;> omega) | (refine ⟨?_, ?_, ?_⟩ <;> omega) | (refine ⟨rfl, ?_⟩; simp only [okBig, Bool.and_eq_true, decide_eq_true_eq]; omega) | (refine Nat.le_trans (Nat.add_le_add_left (varS_le _) _) ?_; simp only [size_strOfNums, List.length_cons, List.length_nil, rowsI_length]; omega) | (refine ⟨rfl, ?_⟩; simp only [okBig, Bool.and_eq_true, decide_eq_true_eq, size_strOfNums, List.length_cons, List.length_nil, rowsI_length]; omega) | (simp only [size_strOfNums, List.length_cons, List.length_nil, rowsI_length]; omega)))) | ((with_reducible refine Opt_bind_ifn ?_ ?_); (· omega)) | ((with_reducible first | refine Opt_bind_if ?_ ?_ | refine Opt_ifb ?_ ?_); (· (first | omega | (refine ⟨?_, ?_⟩ <;> omega) | (refine ⟨?_, ?_, ?_⟩ <;> omega) | (refine ⟨rfl, ?_⟩; simp only [okBig, Bool.and_eq_true, decide_eq_true_eq]; omega) | (refine Nat.le_trans (Nat.add_le_add_left (varS_le _) _) ?_; simp only [size_strOfNums, List.length_cons, List.length_nil, rowsI_length]; omega) | (refine ⟨rfl, ?_⟩; simp only [okBig, Bool.and_eq_true, decide_eq_true_eq, size_strOfNums, List.length_cons, List.length_nil, rowsI_length]; omega) | (simp only [size_strOfNums, List.length_cons, List.length_nil, rowsI_length]; omega)))) | simp (maxSteps := 1000000) (disch := omega) only [go_sem, wI, wB, Int.toNat_natCast, natS1, natS2, rowsI_at, rowsI_at0, rowsI_get, rowsI_snoc, Nat.mul_one, Nat.div_one, Nat.mod_one, c140_eq])
        · rw [show n.toNat - i = (n.toNat - (i + 1)) + 1 by omega, rvSp_stop rfl h] at h3
          rw [hS, ← h3]; rfl
        · rw [show n.toNat - i = (n.toNat - (i + 1)) + 1 by omega, rvSp_go rfl h.1 h.2] at h3
          exact LoopQ_of (i + 1, _, o ++ [_]) rfl ⟨by simp only; omega, by simp only; omega, by simp [h2], h3⟩ (by simp only; omega)
        · rw [show n.toNat - i = 0 by omega, rvSp] at h3
          rw [ez] at h
          rw [hS, ← h3]; simp only; rw [if_neg h]; rfl
        · rw [show n.toNat - i = 0 by omega, rvSp] at h3
          rw [ez] at h
          rw [hS, ← h3]; simp only; rw [if_pos h, ez2]
  · simp (maxSteps := 1000000) (disch := omega) only [go_sem, wI, wB, x121, r121_0, r121_1, r121_2, r121_3, r121_4, r121_5, r121_6, r121_7, r121_8, r121_9, r121_10, r121_12, r121_13, r121_14, r121_15, r121_11, r121_16v, r121_16t, r121_17, r121_18, Int.toNat_natCast, natS1, natS2, rowsI_at, rowsI_at0, rowsI_get, rowsI_snoc, Nat.mul_one, Nat.div_one, Nat.mod_one, c140_eq]
    repeat' (first | ((with_reducible apply scEnd_of); exact rfl; exact rfl) | ((with_reducible apply ScW_of); rfl; rfl; trivial; (intro h; try simp only [HS] at h)) | ((with_reducible apply Br_of) <;> (intro h; (try simp only [h]); (try simp only [HS] at h))) | ((with_reducible first | refine Opt_put_if ?_ ?_ | refine Opt_if ?_ ?_); (· (first | omega | (refine ⟨?_, ?_⟩ <;> omega) | (refine ⟨?_, ?_, ?_⟩ <;> omega) | (refine ⟨rfl, ?_⟩; simp only [okBig, Bool.and_eq_true, decide_eq_true_eq]; omega)))) | ((with_reducible refine Opt_bind_ifn ?_ ?_); (· omega)) | ((with_reducible first | refine Opt_bind_if ?_ ?_ | refine Opt_ifb ?_ ?_); (· (first | omega | (refine ⟨?_, ?_⟩ <;> omega) | (refine ⟨?_, ?_, ?_⟩ <;> omega) | (refine ⟨rfl, ?_⟩; simp only [okBig, Bool.and_eq_true, decide_eq_true_eq]; omega)))) | simp (maxSteps := 1000000) (disch := omega) only [go_sem, wI, wB, Int.toNat_natCast, natS1, natS2, rowsI_at, rowsI_at0, rowsI_get, rowsI_snoc, Nat.mul_one, Nat.div_one, Nat.mod_one, c140_eq])
    · rw [← rvaluesS_eq, rvaluesS, if_neg hn]; rfl
    · omega
noncomputable def c121 : List SV → Refs → Option (SV × List SV × Refs)
  | [⟨.one, [.str s]⟩, ⟨.one, [.int .i64 n]⟩], [] => (open Classical in if s.size ≤ 9223372036854775807 then some (⟨.tup [(false, 1), (false, 1)], [.own 1 (rowsI (rvalues s n).1), .int .i64 (rvalues s n).2]⟩, [⟨.one, [.str s]⟩, ⟨.one, [.int .i64 n]⟩], []) else none)
  | _, _ => none
theorem ctr121 : Ctr Try.prog 121 c121 := by
  refine ⟨k121, fun args rf res args' rf' h => ?_⟩
  unfold c121 at h
  split at h
  · split at h
    · rename_i hyp
      simp only [Option.some.injEq, Prod.mk.injEq] at h
      obtain ⟨rfl, rfl, rfl⟩ := h
      exact g121 _ _ hyp
    · simp at h
  · simp at h
theorem c121_eq {s : ByteArray} {n : Int} (hyp : s.size ≤ 9223372036854775807) : c121 [⟨.one, [.str s]⟩, ⟨.one, [.int .i64 n]⟩] [] = some (⟨.tup [(false, 1), (false, 1)], [.own 1 (rowsI (rvalues s n).1), .int .i64 (rvalues s n).2]⟩, [⟨.one, [.str s]⟩, ⟨.one, [.int .i64 n]⟩], []) := if_pos hyp

end Go.Eng

namespace Go.Eng
open Go Go.Proofs

/-- Points as a list's rows. -/
def rowsP (l : List Pt) : List (List D) := l.map fun p => [.int .i64 p.1, .int .i64 p.2]
@[go_sem] theorem rowsP_length (l : List Pt) : (rowsP l).length = l.length := by simp [rowsP]
@[simp] theorem rowsP_inj {a b : List Pt} : rowsP a = rowsP b ↔ a = b := ⟨fun h => map_inj (by rintro ⟨a, b⟩ ⟨c, d⟩ h; simpa using h) h, fun h => by rw [h]⟩
theorem rowsP_snoc (l : List Pt) (a b : Int) : rowsP l ++ [[.int .i64 a, .int .i64 b]] = rowsP (l ++ [(a, b)]) := by simp [rowsP]
theorem getD_map1 {l : List Pt} {i : Nat} (h : i < l.length) : (l.map (·.1)).getD i 0 = l[i].1 := by simp [List.getD, h]
theorem getD_map2 {l : List Pt} {i : Nat} (h : i < l.length) : (l.map (·.2)).getD i 0 = l[i].2 := by simp [List.getD, h]
theorem rowsP_at {l : List Pt} {i : Nat} (h : i < l.length) : ((rowsP l).drop i).flatten = .int .i64 ((l.map (·.1)).getD i 0) :: .int .i64 ((l.map (·.2)).getD i 0) :: rowsT (rowsP l) i := by
  have h' : i < (rowsP l).length := by rw [rowsP_length]; exact h
  rw [List.drop_eq_getElem_cons h', List.flatten_cons, getD_map1 h, getD_map2 h]
  simp [rowsP, rowsT]
theorem rowsP_get {l : List Pt} {i : Nat} (h : i < l.length) : (rowsP l)[i]? = some [.int .i64 ((l.map (·.1)).getD i 0), .int .i64 ((l.map (·.2)).getD i 0)] := by
  rw [getD_map1 h, getD_map2 h]; simp [rowsP, h]
def ptsB (l : List Pt) : Bool := decide (ptsOk l)
theorem ptsB_yes {l : List Pt} (h : ptsOk l) : ptsB l = true := decide_eq_true h
theorem ptsB_no {l : List Pt} (h : ¬ptsOk l) : ptsB l = false := decide_eq_false h
theorem ptsB_iff {l : List Pt} : ptsB l = true ↔ ptsOk l := decide_eq_true_iff
theorem ptsB_niff {l : List Pt} : ptsB l = false ↔ ¬ptsOk l := decide_eq_false_iff_not
theorem ptsOk_no1 {l : List Pt} {i : Nat} (hi : i < l.length) (h : (l.map (·.1)).getD i 0 < 0 ∨ 1099511627776 < (l.map (·.1)).getD i 0 ∨ (l.map (·.2)).getD i 0 < -1099511627776 ∨ 1099511627776 < (l.map (·.2)).getD i 0 ∨ (0 < i ∧ (l.map (·.1)).getD i 0 ≤ (l.map (·.1)).getD (i - 1) 0)) : ¬ptsOk l := by
  intro hr
  have h1 := hr.1 i hi
  have h2 := hr.2.1 i hi
  omega
theorem ptsB_end {l : List Pt} (h2 : riseTo (l.map (·.1)) l.length) (h3 : valTo (l.map (·.2)) l.length) : ptsB l = decide ((l.length : Int) ≤ 60) := by
  by_cases h : l.length ≤ 60
  · rw [ptsB_yes ⟨h2, h3, h⟩, decide_eq_true (by omega)]
  · rw [ptsB_no fun hh => h hh.2.2, decide_eq_false (by omega)]
theorem timesS_le (l : List Int) : (timesS l).size ≤ 420 := by
  by_cases h : riseOk l
  · rw [(timesS_of h).2.1]
    have := encL_len (f := tNum l) (n := l.length) fun i hi => tNum_ok h.1 hi
    have := h.2
    unfold timesL; omega
  · rw [timesS_no h]; exact Nat.zero_le _
theorem valuesS_le (l : List Int) : (valuesS l).size ≤ 420 := by
  by_cases h : valOk l
  · rw [(valuesS_of h).2.1]
    have := encL_len (f := vNum l) (n := l.length) fun i hi => vNum_ok h.1 hi
    have := h.2
    unfold valuesL; omega
  · rw [valuesS_no h]; exact Nat.zero_le _
theorem unf_size (s : ByteArray) : (unfS s).1.size ≤ 2000 := by
  rcases unf_cases s with ⟨h, _⟩ | ⟨b, h, _, h2, _⟩
  · rw [h]; exact Nat.zero_le _
  · rw [h]; exact h2
theorem extract_le (s : ByteArray) (i j : Nat) : (s.extract i j).size ≤ s.size := by
  rw [← bytes_length, bytes_extract, List.length_drop, List.length_take, bytes_length]; omega

theorem g128 (l : List Pt) (hyp : l.length ≤ 1000000) : Good Try.prog 128 [⟨.one, [.ro 2 (rowsP l)]⟩] [] (⟨.one, [.bool (ptsB l)]⟩) [⟨.one, [.ro 2 (rowsP l)]⟩] [] := by
  refine Good_of (E := envOf [(32, c32)]) (envOk_of ⟨ctr32, trivial⟩) Try.func128 m128 rfl ?_
  simp (maxSteps := 1000000) (disch := omega) only [go_sem, wI, wB, x128, r128_0, r128_1, r128_2, r128_3, r128_4v, r128_4t, r128_5, r128_6, r128_7, Int.toNat_natCast, natS1, natS2, rowsI_at, rowsI_at0, rowsI_get, rowsI_snoc, rowsP_at, rowsP_get, rowsP_snoc, Nat.mul_one, Nat.div_one, Nat.mod_one]
  refine LoopK_of (α := Nat) (fun p => ⟨[(7, i64 p), (6, i64 l.length), (5, ⟨.one, [.ro 2 (rowsP l)]⟩), (0, ⟨.one, [.ro 2 (rowsP l)]⟩)], [], [(0, ⟨.one, [.ro 2 (rowsP l)]⟩)]⟩) (fun p => p ≤ l.length ∧ riseTo (l.map (·.1)) p ∧ valTo (l.map (·.2)) p) (fun p => l.length - p) 0 rfl ⟨Nat.zero_le _, fun i hi => absurd hi (Nat.not_lt_zero i), fun i hi => absurd hi (Nat.not_lt_zero i)⟩ ?_
  rintro i ⟨h1, h2, h3⟩
  simp (maxSteps := 1000000) (disch := omega) only [go_sem, wI, wB, x128, r128_0, r128_1, r128_2, r128_3, r128_4v, r128_4t, r128_5, r128_6, r128_7, Int.toNat_natCast, natS1, natS2, rowsI_at, rowsI_at0, rowsI_get, rowsI_snoc, rowsP_at, rowsP_get, rowsP_snoc, Nat.mul_one, Nat.div_one, Nat.mod_one]
  repeat' (first | ((with_reducible apply scEnd_of); exact rfl; exact rfl) | ((with_reducible apply ScW_of); rfl; rfl; trivial; (intro h; try simp only [HS] at h)) | ((with_reducible apply Br_of) <;> (intro h; (try simp only [h]); (try simp only [HS] at h))) | ((with_reducible first | refine Opt_put_if ?_ ?_ | refine Opt_if ?_ ?_); (· (first | omega | (refine ⟨?_, ?_⟩ <;> omega) | (refine ⟨?_, ?_, ?_⟩ <;> omega) | (refine ⟨rfl, ?_⟩; simp only [okBig, Bool.and_eq_true, decide_eq_true_eq]; omega) | (refine Nat.le_trans (Nat.add_le_add_left (varS_le _) _) ?_; simp only [size_strOfNums, List.length_cons, List.length_nil, rowsI_length, rowsP_length, List.length_take, List.length_map, ByteArray.size_append]; omega) | (refine ⟨rfl, ?_⟩; simp only [okBig, Bool.and_eq_true, decide_eq_true_eq, size_strOfNums, List.length_cons, List.length_nil, rowsI_length, rowsP_length, List.length_take, List.length_map, ByteArray.size_append]; omega) | (simp only [size_strOfNums, List.length_cons, List.length_nil, rowsI_length, rowsP_length, List.length_take, List.length_map, ByteArray.size_append]; omega)))) | ((with_reducible refine Opt_bind_ifn ?_ ?_); (· omega)) | ((with_reducible first | refine Opt_bind_if ?_ ?_ | refine Opt_ifb ?_ ?_); (· (first | omega | (refine ⟨?_, ?_⟩ <;> omega) | (refine ⟨?_, ?_, ?_⟩ <;> omega) | (refine ⟨rfl, ?_⟩; simp only [okBig, Bool.and_eq_true, decide_eq_true_eq]; omega) | (refine Nat.le_trans (Nat.add_le_add_left (varS_le _) _) ?_; simp only [size_strOfNums, List.length_cons, List.length_nil, rowsI_length, rowsP_length, List.length_take, List.length_map, ByteArray.size_append]; omega) | (refine ⟨rfl, ?_⟩; simp only [okBig, Bool.and_eq_true, decide_eq_true_eq, size_strOfNums, List.length_cons, List.length_nil, rowsI_length, rowsP_length, List.length_take, List.length_map, ByteArray.size_append]; omega) | (simp only [size_strOfNums, List.length_cons, List.length_nil, rowsI_length, rowsP_length, List.length_take, List.length_map, ByteArray.size_append]; omega)))) | simp (maxSteps := 1000000) (disch := omega) only [go_sem, wI, wB, Int.toNat_natCast, natS1, natS2, rowsI_at, rowsI_at0, rowsI_get, rowsI_snoc, rowsP_at, rowsP_get, rowsP_snoc, Nat.mul_one, Nat.div_one, Nat.mod_one])
  all_goals (try (exfalso; omega))
  all_goals first | (rw [ptsB_no (ptsOk_no1 (i := i) (by omega) (by omega))]; done) | exact LoopQ_of (i + 1) rfl ⟨by omega, riseTo_succ h2 (by omega) (by omega) (by omega), valTo_succ h3 (by omega) (by omega)⟩ (by omega) | (have e : i = l.length := (by omega); subst e; rw [ptsB_end h2 h3]) | trace_state
noncomputable def c128 : List SV → Refs → Option (SV × List SV × Refs) := ctrOf (α := (List Pt)) (fun l => l.length ≤ 1000000) (fun l => [⟨.one, [.ro 2 (rowsP l)]⟩]) (fun l => []) (fun l => ⟨.one, [.bool (ptsB l)]⟩) (fun l => [⟨.one, [.ro 2 (rowsP l)]⟩]) (fun l => [])
theorem ctr128 : Ctr Try.prog 128 c128 := ctrOf_ok k128 (fun l hyp => g128 _ hyp)
theorem c128_eq {l : List Pt} (hyp : l.length ≤ 1000000) : c128 [⟨.one, [.ro 2 (rowsP l)]⟩] [] = some (⟨.one, [.bool (ptsB l)]⟩, [⟨.one, [.ro 2 (rowsP l)]⟩], []) := ctrOf_eq (α := (List Pt)) (x := l) (by intro x y h1 h2; simp at h1 h2; first | exact h1 | (simp_all; done) | (ext <;> simp_all)) hyp

theorem g92 (l : List Pt) (hyp : l.length ≤ 1000000) : Good Try.prog 92 [⟨.one, [.ro 2 (rowsP l)]⟩] [] (⟨.one, [.str (blockS l)]⟩) [⟨.one, [.ro 2 (rowsP l)]⟩] [] := by
  refine Good_of (E := envOf [(128, c128), (57, c57), (126, c126), (127, c127), (123, c123)]) (envOk_of ⟨ctr128, ⟨ctr57, ⟨ctr126, ⟨ctr127, ⟨ctr123, trivial⟩⟩⟩⟩⟩) Try.func92 m92 rfl ?_
  simp (maxSteps := 1000000) (disch := omega) only [go_sem, wI, wB, x92, r92_0, r92_1, r92_2, r92_3, r92_4, r92_5, r92_6, r92_7, r92_8, r92_9, r92_10, Int.toNat_natCast, natS1, natS2, rowsI_at, rowsI_at0, rowsI_get, rowsI_snoc, rowsP_at, rowsP_get, rowsP_snoc, Nat.mul_one, Nat.div_one, Nat.mod_one, c128_eq, c126_eq, c127_eq]
  repeat' (first | ((with_reducible apply scEnd_of); exact rfl; exact rfl) | ((with_reducible apply ScW_of); rfl; rfl; trivial; (intro h; try simp only [HS] at h)) | ((with_reducible apply Br_of) <;> (intro h; (try simp only [h]); (try simp only [HS] at h))) | ((with_reducible first | refine Opt_put_if ?_ ?_ | refine Opt_if ?_ ?_); (· (first | omega | (refine ⟨?_, ?_⟩ <;> omega) | (refine ⟨?_, ?_, ?_⟩ <;> omega) | (refine ⟨rfl, ?_⟩; simp only [okBig, Bool.and_eq_true, decide_eq_true_eq]; omega) | (refine Nat.le_trans (Nat.add_le_add_left (varS_le _) _) ?_; simp only [size_strOfNums, List.length_cons, List.length_nil, rowsI_length, rowsP_length, List.length_take, List.length_map, ByteArray.size_append]; omega) | (refine ⟨rfl, ?_⟩; simp only [okBig, Bool.and_eq_true, decide_eq_true_eq, size_strOfNums, List.length_cons, List.length_nil, rowsI_length, rowsP_length, List.length_take, List.length_map, ByteArray.size_append]; omega) | (simp only [size_strOfNums, List.length_cons, List.length_nil, rowsI_length, rowsP_length, List.length_take, List.length_map, ByteArray.size_append]; omega)))) | ((with_reducible refine Opt_bind_ifn ?_ ?_); (· omega)) | ((with_reducible first | refine Opt_bind_if ?_ ?_ | refine Opt_ifb ?_ ?_); (· (first | omega | (refine ⟨?_, ?_⟩ <;> omega) | (refine ⟨?_, ?_, ?_⟩ <;> omega) | (refine ⟨rfl, ?_⟩; simp only [okBig, Bool.and_eq_true, decide_eq_true_eq]; omega) | (refine Nat.le_trans (Nat.add_le_add_left (varS_le _) _) ?_; simp only [size_strOfNums, List.length_cons, List.length_nil, rowsI_length, rowsP_length, List.length_take, List.length_map, ByteArray.size_append]; omega) | (refine ⟨rfl, ?_⟩; simp only [okBig, Bool.and_eq_true, decide_eq_true_eq, size_strOfNums, List.length_cons, List.length_nil, rowsI_length, rowsP_length, List.length_take, List.length_map, ByteArray.size_append]; omega) | (simp only [size_strOfNums, List.length_cons, List.length_nil, rowsI_length, rowsP_length, List.length_take, List.length_map, ByteArray.size_append]; omega)))) | simp (maxSteps := 1000000) (disch := omega) only [go_sem, wI, wB, Int.toNat_natCast, natS1, natS2, rowsI_at, rowsI_at0, rowsI_get, rowsI_snoc, rowsP_at, rowsP_get, rowsP_snoc, Nat.mul_one, Nat.div_one, Nat.mod_one, c128_eq, c126_eq, c127_eq])
  · rw [blockS, if_neg]; rintro ⟨q1, q2⟩; have q3 := ptsB_yes q1; have q4 := List.length_pos_iff.2 q2; rw [q3] at h; simp at h; simp [h] at q4
  · have hok := ptsB_iff.1 h.1
    have hh := h
    have h60 := hok.2.2
    refine LoopK_of (α := Nat) (fun p => ⟨[(19, i64 p), (18, i64 l.length), (17, ⟨.one, [.ro 2 (rowsP l)]⟩), (4, ⟨.one, [.own 1 (rowsI ((l.map (·.2)).take p))]⟩), (3, ⟨.one, [.own 1 (rowsI ((l.map (·.1)).take p))]⟩), (0, ⟨.one, [.ro 2 (rowsP l)]⟩)], [], [(0, ⟨.one, [.ro 2 (rowsP l)]⟩)]⟩) (fun p => p ≤ l.length) (fun p => l.length - p) 0 rfl (Nat.zero_le _) ?_
    intro i hi
    by_cases hl : i < l.length
    · simp (maxSteps := 1000000) (disch := omega) only [go_sem, wI, wB, x92, r92_0, r92_1, r92_2, r92_3, r92_4, r92_5, r92_6, r92_7, r92_8, r92_9, r92_10, Int.toNat_natCast, natS1, natS2, rowsI_at, rowsI_at0, rowsI_get, rowsI_snoc, rowsP_at, rowsP_get, rowsP_snoc, Nat.mul_one, Nat.div_one, Nat.mod_one, c128_eq, c126_eq, c127_eq]
      repeat' (first | ((with_reducible apply scEnd_of); exact rfl; exact rfl) | ((with_reducible apply ScW_of); rfl; rfl; trivial; (intro h; try simp only [HS] at h)) | ((with_reducible apply Br_of) <;> (intro h; (try simp only [h]); (try simp only [HS] at h))) | ((with_reducible first | refine Opt_put_if ?_ ?_ | refine Opt_if ?_ ?_); (· (first | omega | (refine ⟨?_, ?_⟩ <;> omega) | (refine ⟨?_, ?_, ?_⟩ <;> omega) | (refine ⟨rfl, ?_⟩; simp only [okBig, Bool.and_eq_true, decide_eq_true_eq]; omega) | (refine Nat.le_trans (Nat.add_le_add_left (varS_le _) _) ?_; simp only [size_strOfNums, List.length_cons, List.length_nil, rowsI_length, rowsP_length, List.length_take, List.length_map, ByteArray.size_append]; omega) | (refine ⟨rfl, ?_⟩; simp only [okBig, Bool.and_eq_true, decide_eq_true_eq, size_strOfNums, List.length_cons, List.length_nil, rowsI_length, rowsP_length, List.length_take, List.length_map, ByteArray.size_append]; omega) | (simp only [size_strOfNums, List.length_cons, List.length_nil, rowsI_length, rowsP_length, List.length_take, List.length_map, ByteArray.size_append]; omega)))) | ((with_reducible refine Opt_bind_ifn ?_ ?_); (· omega)) | ((with_reducible first | refine Opt_bind_if ?_ ?_ | refine Opt_ifb ?_ ?_); (· (first | omega | (refine ⟨?_, ?_⟩ <;> omega) | (refine ⟨?_, ?_, ?_⟩ <;> omega) | (refine ⟨rfl, ?_⟩; simp only [okBig, Bool.and_eq_true, decide_eq_true_eq]; omega) | (refine Nat.le_trans (Nat.add_le_add_left (varS_le _) _) ?_; simp only [size_strOfNums, List.length_cons, List.length_nil, rowsI_length, rowsP_length, List.length_take, List.length_map, ByteArray.size_append]; omega) | (refine ⟨rfl, ?_⟩; simp only [okBig, Bool.and_eq_true, decide_eq_true_eq, size_strOfNums, List.length_cons, List.length_nil, rowsI_length, rowsP_length, List.length_take, List.length_map, ByteArray.size_append]; omega) | (simp only [size_strOfNums, List.length_cons, List.length_nil, rowsI_length, rowsP_length, List.length_take, List.length_map, ByteArray.size_append]; omega)))) | simp (maxSteps := 1000000) (disch := omega) only [go_sem, wI, wB, Int.toNat_natCast, natS1, natS2, rowsI_at, rowsI_at0, rowsI_get, rowsI_snoc, rowsP_at, rowsP_get, rowsP_snoc, Nat.mul_one, Nat.div_one, Nat.mod_one, c128_eq, c126_eq, c127_eq])
      · rw [← take_snocD _ (by rw [List.length_map]; omega), ← take_snocD _ (by rw [List.length_map]; omega)]
        exact LoopQ_of (i + 1) rfl (by omega) (by omega)
      · omega
    · have e : i = l.length := by omega
      subst e
      rw [List.take_of_length_le (by rw [List.length_map]; omega), List.take_of_length_le (by rw [List.length_map]; omega)]
      have z1 := varS_le l.length
      have z2 := timesS_le (l.map (·.1))
      have z3 := valuesS_le (l.map (·.2))
      have z4 : (l.map (·.1)).length ≤ 1000000 := by rw [List.length_map]; omega
      have z5 : (l.map (·.2)).length ≤ 1000000 := by rw [List.length_map]; omega
      simp (maxSteps := 1000000) (disch := omega) only [go_sem, wI, wB, x92, r92_0, r92_1, r92_2, r92_3, r92_4, r92_5, r92_6, r92_7, r92_8, r92_9, r92_10, Int.toNat_natCast, natS1, natS2, rowsI_at, rowsI_at0, rowsI_get, rowsI_snoc, rowsP_at, rowsP_get, rowsP_snoc, Nat.mul_one, Nat.div_one, Nat.mod_one, c128_eq, c126_eq, c127_eq]
      repeat' (first | ((with_reducible apply scEnd_of); exact rfl; exact rfl) | ((with_reducible apply ScW_of); rfl; rfl; trivial; (intro h; try simp only [HS] at h)) | ((with_reducible apply Br_of) <;> (intro h; (try simp only [h]); (try simp only [HS] at h))) | ((with_reducible first | refine Opt_put_if ?_ ?_ | refine Opt_if ?_ ?_); (· (first | omega | (refine ⟨?_, ?_⟩ <;> omega) | (refine ⟨?_, ?_, ?_⟩ <;> omega) | (refine ⟨rfl, ?_⟩; simp only [okBig, Bool.and_eq_true, decide_eq_true_eq]; omega) | (refine Nat.le_trans (Nat.add_le_add_left (varS_le _) _) ?_; simp only [size_strOfNums, List.length_cons, List.length_nil, rowsI_length, rowsP_length, List.length_take, List.length_map, ByteArray.size_append]; omega) | (refine ⟨rfl, ?_⟩; simp only [okBig, Bool.and_eq_true, decide_eq_true_eq, size_strOfNums, List.length_cons, List.length_nil, rowsI_length, rowsP_length, List.length_take, List.length_map, ByteArray.size_append]; omega) | (simp only [size_strOfNums, List.length_cons, List.length_nil, rowsI_length, rowsP_length, List.length_take, List.length_map, ByteArray.size_append]; omega)))) | ((with_reducible refine Opt_bind_ifn ?_ ?_); (· omega)) | ((with_reducible first | refine Opt_bind_if ?_ ?_ | refine Opt_ifb ?_ ?_); (· (first | omega | (refine ⟨?_, ?_⟩ <;> omega) | (refine ⟨?_, ?_, ?_⟩ <;> omega) | (refine ⟨rfl, ?_⟩; simp only [okBig, Bool.and_eq_true, decide_eq_true_eq]; omega) | (refine Nat.le_trans (Nat.add_le_add_left (varS_le _) _) ?_; simp only [size_strOfNums, List.length_cons, List.length_nil, rowsI_length, rowsP_length, List.length_take, List.length_map, ByteArray.size_append]; omega) | (refine ⟨rfl, ?_⟩; simp only [okBig, Bool.and_eq_true, decide_eq_true_eq, size_strOfNums, List.length_cons, List.length_nil, rowsI_length, rowsP_length, List.length_take, List.length_map, ByteArray.size_append]; omega) | (simp only [size_strOfNums, List.length_cons, List.length_nil, rowsI_length, rowsP_length, List.length_take, List.length_map, ByteArray.size_append]; omega)))) | simp (maxSteps := 1000000) (disch := omega) only [go_sem, wI, wB, Int.toNat_natCast, natS1, natS2, rowsI_at, rowsI_at0, rowsI_get, rowsI_snoc, rowsP_at, rowsP_get, rowsP_snoc, Nat.mul_one, Nat.div_one, Nat.mod_one, c128_eq, c126_eq, c127_eq])
      · omega
      · rw [blockS, if_pos ⟨hok, fun e => hh.2 (by rw [e]; rfl)⟩]; rfl
noncomputable def c92 : List SV → Refs → Option (SV × List SV × Refs) := ctrOf (α := (List Pt)) (fun l => l.length ≤ 1000000) (fun l => [⟨.one, [.ro 2 (rowsP l)]⟩]) (fun l => []) (fun l => ⟨.one, [.str (blockS l)]⟩) (fun l => [⟨.one, [.ro 2 (rowsP l)]⟩]) (fun l => [])
theorem ctr92 : Ctr Try.prog 92 c92 := ctrOf_ok k92 (fun l hyp => g92 _ hyp)
theorem c92_eq {l : List Pt} (hyp : l.length ≤ 1000000) : c92 [⟨.one, [.ro 2 (rowsP l)]⟩] [] = some (⟨.one, [.str (blockS l)]⟩, [⟨.one, [.ro 2 (rowsP l)]⟩], []) := ctrOf_eq (α := (List Pt)) (x := l) (by intro x y h1 h2; simp at h1 h2; first | exact h1 | (simp_all; done) | (ext <;> simp_all)) hyp

end Go.Eng

namespace Go.Eng
open Go Go.Proofs

theorem tailT_eq (s : ByteArray) : rtimes ((unfS s).1.extract (rv (unfS s).1).2.toNat (unfS s).1.size) (rv (unfS s).1).1 = tailT s := rfl
theorem tailV_eq (s : ByteArray) : rvalues ((unfS s).1.extract ((rv (unfS s).1).2 + (tailT s).2).toNat (unfS s).1.size) (rv (unfS s).1).1 = tailV s := rfl
theorem tailT_rng (s : ByteArray) : 0 ≤ (tailT s).2 ∧ (rv (unfS s).1).2 + (tailT s).2 ≤ (unfS s).1.size ∧ (tailT s).1.length ≤ 60 := by
  have h1 := rv_rng (unfS s).1
  have h2 := rtimes_rng ((unfS s).1.extract (rv (unfS s).1).2.toNat (unfS s).1.size) (rv (unfS s).1).1
  rw [tailT_eq] at h2
  have h3 : ((unfS s).1.extract (rv (unfS s).1).2.toNat (unfS s).1.size).size = (unfS s).1.size - (rv (unfS s).1).2.toNat := by
    rw [← bytes_length, bytes_tail, List.length_drop, bytes_length]
  omega
theorem tailV_rng (s : ByteArray) : 0 ≤ (tailV s).2 ∧ (tailV s).2 ≤ (unfS s).1.size ∧ (tailV s).1.length ≤ 60 := by
  have h2 := rvalues_rng ((unfS s).1.extract ((rv (unfS s).1).2 + (tailT s).2).toNat (unfS s).1.size) (rv (unfS s).1).1
  rw [tailV_eq] at h2
  have := extract_le (unfS s).1 ((rv (unfS s).1).2 + (tailT s).2).toNat (unfS s).1.size
  omega
theorem tailT_len {s : ByteArray} (h : (tailT s).2 ≠ 0) : ((tailT s).1.length : Int) = (rv (unfS s).1).1 ∧ (rv (unfS s).1).1 ≤ 60 := by
  rcases rtimes_cases ((unfS s).1.extract (rv (unfS s).1).2.toNat (unfS s).1.size) (rv (unfS s).1).1 with ⟨l, h1, h2⟩ | ⟨_, h2⟩
  · rw [tailT_eq] at h2
    rw [h2]
    have := h1.1.2
    have := h1.2.1
    simp only; omega
  · rw [tailT_eq] at h2
    rw [h2] at h; exact absurd rfl h
theorem tailV_len {s : ByteArray} (h : (tailV s).2 ≠ 0) : ((tailV s).1.length : Int) = (rv (unfS s).1).1 := by
  rcases rvalues_cases ((unfS s).1.extract ((rv (unfS s).1).2 + (tailT s).2).toNat (unfS s).1.size) (rv (unfS s).1).1 with ⟨l, h1, h2⟩ | ⟨_, h2⟩
  · rw [tailV_eq] at h2
    rw [h2]
    exact h1.2.1
  · rw [tailV_eq] at h2
    rw [h2] at h; exact absurd rfl h
theorem zip_snoc {a b : List Int} {i : Nat} (h1 : i < a.length) (h2 : i < b.length) : (a.zip b).take i ++ [(a.getD i 0, b.getD i 0)] = (a.zip b).take (i + 1) := by
  have h3 : i < (a.zip b).length := by rw [List.length_zip]; omega
  rw [List.take_succ_eq_append_getElem h3, List.getElem_zip]
  simp [List.getD, h1, h2]
theorem rblock_len (s : ByteArray) : (rblock s).1.length ≤ 60 := by
  rcases rblock_cases s with ⟨l, h, e⟩ | ⟨_, e⟩
  · rw [e]; exact h.1.2.2
  · rw [e]; simp

theorem g29 (s : ByteArray) : Good Try.prog 29 [⟨.one, [.str s]⟩] [] (⟨.tup [(false, 1), (false, 1)], [.own 2 (rowsP (rblock s).1), .bool (rblock s).2]⟩) [⟨.one, [.str s]⟩] [] := by
  refine Good_of (E := envOf [(88, c88), (89, c89), (90, c90), (91, c91), (92, c92)]) (envOk_of ⟨ctr88, ⟨ctr89, ⟨ctr90, ⟨ctr91, ⟨ctr92, trivial⟩⟩⟩⟩⟩) Try.func29 m29 rfl ?_
  have r1 := rv_rng (unfS s).1
  have r2 := tailT_rng s
  have r3 := tailV_rng s
  have r4 := unf_size s
  simp (maxSteps := 1000000) (disch := omega) only [go_sem, wI, wB, x29, r29_0, r29_1, r29_2, r29_3, r29_4, r29_5, r29_6, r29_7, r29_8, r29_9, r29_10, r29_11, r29_12, r29_13, r29_14, r29_15, r29_16, r29_17, Int.toNat_natCast, natS1, natS2, rowsI_at, rowsI_at0, rowsI_get, rowsI_snoc, rowsP_at, rowsP_get, rowsP_snoc, Nat.mul_one, Nat.div_one, Nat.mod_one, tailT_eq, tailV_eq, c92_eq]
  repeat' (first | ((with_reducible apply scEnd_of); exact rfl; exact rfl) | ((with_reducible apply ScW_of); rfl; rfl; trivial; (intro h; try simp only [HS] at h)) | ((with_reducible apply Br_of) <;> (intro h; (try simp only [h]); (try simp only [HS] at h))) | ((with_reducible first | refine Opt_put_if ?_ ?_ | refine Opt_if ?_ ?_); (· (first | omega | (refine ⟨?_, ?_⟩ <;> omega) | (refine ⟨?_, ?_, ?_⟩ <;> omega) | (refine ⟨rfl, ?_⟩; simp only [okBig, Bool.and_eq_true, decide_eq_true_eq]; omega) | (refine Nat.le_trans (Nat.add_le_add_left (varS_le _) _) ?_; simp only [size_strOfNums, List.length_cons, List.length_nil, rowsI_length, rowsP_length, List.length_take, List.length_map, ByteArray.size_append, List.length_zip]; omega) | (refine ⟨rfl, ?_⟩; simp only [okBig, Bool.and_eq_true, decide_eq_true_eq, size_strOfNums, List.length_cons, List.length_nil, rowsI_length, rowsP_length, List.length_take, List.length_map, ByteArray.size_append, List.length_zip]; omega) | (simp only [size_strOfNums, List.length_cons, List.length_nil, rowsI_length, rowsP_length, List.length_take, List.length_map, ByteArray.size_append, List.length_zip]; omega)))) | ((with_reducible refine Opt_bind_ifn ?_ ?_); (· omega)) | ((with_reducible first | refine Opt_bind_if ?_ ?_ | refine Opt_ifb ?_ ?_); (· (first | omega | (refine ⟨?_, ?_⟩ <;> omega) | (refine ⟨?_, ?_, ?_⟩ <;> omega) | (refine ⟨rfl, ?_⟩; simp only [okBig, Bool.and_eq_true, decide_eq_true_eq]; omega) | (refine Nat.le_trans (Nat.add_le_add_left (varS_le _) _) ?_; simp only [size_strOfNums, List.length_cons, List.length_nil, rowsI_length, rowsP_length, List.length_take, List.length_map, ByteArray.size_append, List.length_zip]; omega) | (refine ⟨rfl, ?_⟩; simp only [okBig, Bool.and_eq_true, decide_eq_true_eq, size_strOfNums, List.length_cons, List.length_nil, rowsI_length, rowsP_length, List.length_take, List.length_map, ByteArray.size_append, List.length_zip]; omega) | (simp only [size_strOfNums, List.length_cons, List.length_nil, rowsI_length, rowsP_length, List.length_take, List.length_map, ByteArray.size_append, List.length_zip]; omega)))) | simp (maxSteps := 1000000) (disch := omega) only [go_sem, wI, wB, Int.toNat_natCast, natS1, natS2, rowsI_at, rowsI_at0, rowsI_get, rowsI_snoc, rowsP_at, rowsP_get, rowsP_snoc, Nat.mul_one, Nat.div_one, Nat.mod_one, tailT_eq, tailV_eq, c92_eq])
  all_goals (try (exfalso; omega))
  · rw [← blockI_eq, blockI, rblockI, if_pos h]; rfl
  · rw [← blockI_eq, blockI, rblockI, if_neg (by omega), if_pos h]; rfl
  · refine LoopK_of (α := Nat) (fun p => ⟨[(64, i64 p), (63, i64 (tailT s).1.length), (62, ⟨.one, [.al ⟨.slot 9 0, []⟩]⟩), (13, ⟨.one, [.own 2 (rowsP (((tailT s).1.zip (tailV s).1).take p))]⟩), (11, ⟨.one, [.own 1 (rowsI (tailV s).1)]⟩), (9, ⟨.one, [.own 1 (rowsI (tailT s).1)]⟩), (0, st1 s)], [], [(0, st1 s)]⟩) (fun p => p ≤ (tailT s).1.length) (fun p => (tailT s).1.length - p) 0 rfl (Nat.zero_le _) ?_
    intro i hi
    by_cases hl : i < (tailT s).1.length
    · simp (maxSteps := 1000000) (disch := omega) only [go_sem, wI, wB, x29, r29_0, r29_1, r29_2, r29_3, r29_4, r29_5, r29_6, r29_7, r29_8, r29_9, r29_10, r29_11, r29_12, r29_13, r29_14, r29_15, r29_16, r29_17, Int.toNat_natCast, natS1, natS2, rowsI_at, rowsI_at0, rowsI_get, rowsI_snoc, rowsP_at, rowsP_get, rowsP_snoc, Nat.mul_one, Nat.div_one, Nat.mod_one, tailT_eq, tailV_eq, c92_eq]
      repeat' (first | ((with_reducible apply scEnd_of); exact rfl; exact rfl) | ((with_reducible apply ScW_of); rfl; rfl; trivial; (intro h; try simp only [HS] at h)) | ((with_reducible apply Br_of) <;> (intro h; (try simp only [h]); (try simp only [HS] at h))) | ((with_reducible first | refine Opt_put_if ?_ ?_ | refine Opt_if ?_ ?_); (· (first | omega | (refine ⟨?_, ?_⟩ <;> omega) | (refine ⟨?_, ?_, ?_⟩ <;> omega) | (refine ⟨rfl, ?_⟩; simp only [okBig, Bool.and_eq_true, decide_eq_true_eq]; omega) | (refine Nat.le_trans (Nat.add_le_add_left (varS_le _) _) ?_; simp only [size_strOfNums, List.length_cons, List.length_nil, rowsI_length, rowsP_length, List.length_take, List.length_map, ByteArray.size_append, List.length_zip]; omega) | (refine ⟨rfl, ?_⟩; simp only [okBig, Bool.and_eq_true, decide_eq_true_eq, size_strOfNums, List.length_cons, List.length_nil, rowsI_length, rowsP_length, List.length_take, List.length_map, ByteArray.size_append, List.length_zip]; omega) | (simp only [size_strOfNums, List.length_cons, List.length_nil, rowsI_length, rowsP_length, List.length_take, List.length_map, ByteArray.size_append, List.length_zip]; omega)))) | ((with_reducible refine Opt_bind_ifn ?_ ?_); (· omega)) | ((with_reducible first | refine Opt_bind_if ?_ ?_ | refine Opt_ifb ?_ ?_); (· (first | omega | (refine ⟨?_, ?_⟩ <;> omega) | (refine ⟨?_, ?_, ?_⟩ <;> omega) | (refine ⟨rfl, ?_⟩; simp only [okBig, Bool.and_eq_true, decide_eq_true_eq]; omega) | (refine Nat.le_trans (Nat.add_le_add_left (varS_le _) _) ?_; simp only [size_strOfNums, List.length_cons, List.length_nil, rowsI_length, rowsP_length, List.length_take, List.length_map, ByteArray.size_append, List.length_zip]; omega) | (refine ⟨rfl, ?_⟩; simp only [okBig, Bool.and_eq_true, decide_eq_true_eq, size_strOfNums, List.length_cons, List.length_nil, rowsI_length, rowsP_length, List.length_take, List.length_map, ByteArray.size_append, List.length_zip]; omega) | (simp only [size_strOfNums, List.length_cons, List.length_nil, rowsI_length, rowsP_length, List.length_take, List.length_map, ByteArray.size_append, List.length_zip]; omega)))) | simp (maxSteps := 1000000) (disch := omega) only [go_sem, wI, wB, Int.toNat_natCast, natS1, natS2, rowsI_at, rowsI_at0, rowsI_get, rowsI_snoc, rowsP_at, rowsP_get, rowsP_snoc, Nat.mul_one, Nat.div_one, Nat.mod_one, tailT_eq, tailV_eq, c92_eq])
      all_goals (try (exfalso; omega))
      · rw [zip_snoc (by omega) (by omega)]
        exact LoopQ_of (i + 1) rfl (by omega) (by omega)
    · have e : i = (tailT s).1.length := by omega
      subst e
      rw [List.take_of_length_le (by rw [List.length_zip]; omega)]
      have z1 : ((tailT s).1.zip (tailV s).1).length ≤ 1000000 := by rw [List.length_zip]; omega
      simp (maxSteps := 1000000) (disch := omega) only [go_sem, wI, wB, x29, r29_0, r29_1, r29_2, r29_3, r29_4, r29_5, r29_6, r29_7, r29_8, r29_9, r29_10, r29_11, r29_12, r29_13, r29_14, r29_15, r29_16, r29_17, Int.toNat_natCast, natS1, natS2, rowsI_at, rowsI_at0, rowsI_get, rowsI_snoc, rowsP_at, rowsP_get, rowsP_snoc, Nat.mul_one, Nat.div_one, Nat.mod_one, tailT_eq, tailV_eq, c92_eq]
      repeat' (first | ((with_reducible apply scEnd_of); exact rfl; exact rfl) | ((with_reducible apply ScW_of); rfl; rfl; trivial; (intro h; try simp only [HS] at h)) | ((with_reducible apply Br_of) <;> (intro h; (try simp only [h]); (try simp only [HS] at h))) | ((with_reducible first | refine Opt_put_if ?_ ?_ | refine Opt_if ?_ ?_); (· (first | omega | (refine ⟨?_, ?_⟩ <;> omega) | (refine ⟨?_, ?_, ?_⟩ <;> omega) | (refine ⟨rfl, ?_⟩; simp only [okBig, Bool.and_eq_true, decide_eq_true_eq]; omega) | (refine Nat.le_trans (Nat.add_le_add_left (varS_le _) _) ?_; simp only [size_strOfNums, List.length_cons, List.length_nil, rowsI_length, rowsP_length, List.length_take, List.length_map, ByteArray.size_append, List.length_zip]; omega) | (refine ⟨rfl, ?_⟩; simp only [okBig, Bool.and_eq_true, decide_eq_true_eq, size_strOfNums, List.length_cons, List.length_nil, rowsI_length, rowsP_length, List.length_take, List.length_map, ByteArray.size_append, List.length_zip]; omega) | (simp only [size_strOfNums, List.length_cons, List.length_nil, rowsI_length, rowsP_length, List.length_take, List.length_map, ByteArray.size_append, List.length_zip]; omega)))) | ((with_reducible refine Opt_bind_ifn ?_ ?_); (· omega)) | ((with_reducible first | refine Opt_bind_if ?_ ?_ | refine Opt_ifb ?_ ?_); (· (first | omega | (refine ⟨?_, ?_⟩ <;> omega) | (refine ⟨?_, ?_, ?_⟩ <;> omega) | (refine ⟨rfl, ?_⟩; simp only [okBig, Bool.and_eq_true, decide_eq_true_eq]; omega) | (refine Nat.le_trans (Nat.add_le_add_left (varS_le _) _) ?_; simp only [size_strOfNums, List.length_cons, List.length_nil, rowsI_length, rowsP_length, List.length_take, List.length_map, ByteArray.size_append, List.length_zip]; omega) | (refine ⟨rfl, ?_⟩; simp only [okBig, Bool.and_eq_true, decide_eq_true_eq, size_strOfNums, List.length_cons, List.length_nil, rowsI_length, rowsP_length, List.length_take, List.length_map, ByteArray.size_append, List.length_zip]; omega) | (simp only [size_strOfNums, List.length_cons, List.length_nil, rowsI_length, rowsP_length, List.length_take, List.length_map, ByteArray.size_append, List.length_zip]; omega)))) | simp (maxSteps := 1000000) (disch := omega) only [go_sem, wI, wB, Int.toNat_natCast, natS1, natS2, rowsI_at, rowsI_at0, rowsI_get, rowsI_snoc, rowsP_at, rowsP_get, rowsP_snoc, Nat.mul_one, Nat.div_one, Nat.mod_one, tailT_eq, tailV_eq, c92_eq])
      all_goals (try (exfalso; omega))
      · rw [← blockI_eq, blockI, rblockI, if_neg (by omega), if_neg (by omega), if_neg h]; rfl
      · rw [← blockI_eq, blockI, rblockI, if_neg (by omega), if_neg (by omega), if_pos h]
noncomputable def c29 : List SV → Refs → Option (SV × List SV × Refs)
  | [⟨.one, [.str s]⟩], [] => some (⟨.tup [(false, 1), (false, 1)], [.own 2 (rowsP (rblock s).1), .bool (rblock s).2]⟩, [⟨.one, [.str s]⟩], [])
  | _, _ => none
theorem ctr29 : Ctr Try.prog 29 c29 := by
  refine ⟨k29, fun args rf res args' rf' h => ?_⟩
  unfold c29 at h
  split at h
  · simp only [Option.some.injEq, Prod.mk.injEq] at h
    obtain ⟨rfl, rfl, rfl⟩ := h
    exact g29 _
  · simp at h
@[go_sem] theorem c29_eq {s : ByteArray} : c29 [⟨.one, [.str s]⟩] [] = some (⟨.tup [(false, 1), (false, 1)], [.own 2 (rowsP (rblock s).1), .bool (rblock s).2]⟩, [⟨.one, [.str s]⟩], []) := rfl

theorem g86 (s : ByteArray) : Good Try.prog 86 [⟨.one, [.str s]⟩] [] (⟨.tup [(false, 1), (false, 1)], [.own 2 (rowsP (rblock s).1), .bool (rblock s).2]⟩) [⟨.one, [.str s]⟩] [] := by
  refine Good_of (E := envOf [(119, c119), (116, c116), (120, c120), (121, c121)]) (envOk_of ⟨ctr119, ⟨ctr116, ⟨ctr120, ⟨ctr121, trivial⟩⟩⟩⟩) Try.func86 m86 rfl ?_
  have r1 := rv_rng (unfS s).1
  have r2 := tailT_rng s
  have r3 := tailV_rng s
  have r4 := unf_size s
  have r5 := extract_le (unfS s).1 (rv (unfS s).1).2.toNat (unfS s).1.size
  have r6 := extract_le (unfS s).1 ((rv (unfS s).1).2 + (tailT s).2).toNat (unfS s).1.size
  simp (maxSteps := 1000000) (disch := omega) only [go_sem, wI, wB, x86, r86_0, r86_1, r86_2, r86_3, r86_4, r86_5, r86_6, r86_7, r86_8, r86_9, r86_10, r86_11, r86_12, r86_13, r86_14, r86_16v, r86_16t, r86_15, r86_17, Int.toNat_natCast, natS1, natS2, rowsI_at, rowsI_at0, rowsI_get, rowsI_snoc, rowsP_at, rowsP_get, rowsP_snoc, Nat.mul_one, Nat.div_one, Nat.mod_one, tailT_eq, tailV_eq, c120_eq, c121_eq]
  repeat' (first | ((with_reducible apply scEnd_of); exact rfl; exact rfl) | ((with_reducible apply ScW_of); rfl; rfl; trivial; (intro h; try simp only [HS] at h)) | ((with_reducible apply Br_of) <;> (intro h; (try simp only [h]); (try simp only [HS] at h))) | ((with_reducible first | refine Opt_put_if ?_ ?_ | refine Opt_if ?_ ?_); (· (first | omega | (refine ⟨?_, ?_⟩ <;> omega) | (refine ⟨?_, ?_, ?_⟩ <;> omega) | (refine ⟨rfl, ?_⟩; simp only [okBig, Bool.and_eq_true, decide_eq_true_eq]; omega) | (refine Nat.le_trans (Nat.add_le_add_left (varS_le _) _) ?_; simp only [size_strOfNums, List.length_cons, List.length_nil, rowsI_length, rowsP_length, List.length_take, List.length_map, ByteArray.size_append, List.length_zip]; omega) | (refine ⟨rfl, ?_⟩; simp only [okBig, Bool.and_eq_true, decide_eq_true_eq, size_strOfNums, List.length_cons, List.length_nil, rowsI_length, rowsP_length, List.length_take, List.length_map, ByteArray.size_append, List.length_zip]; omega) | (simp only [size_strOfNums, List.length_cons, List.length_nil, rowsI_length, rowsP_length, List.length_take, List.length_map, ByteArray.size_append, List.length_zip]; omega)))) | ((with_reducible refine Opt_bind_ifn ?_ ?_); (· omega)) | ((with_reducible first | refine Opt_bind_if ?_ ?_ | refine Opt_ifb ?_ ?_); (· (first | omega | (refine ⟨?_, ?_⟩ <;> omega) | (refine ⟨?_, ?_, ?_⟩ <;> omega) | (refine ⟨rfl, ?_⟩; simp only [okBig, Bool.and_eq_true, decide_eq_true_eq]; omega) | (refine Nat.le_trans (Nat.add_le_add_left (varS_le _) _) ?_; simp only [size_strOfNums, List.length_cons, List.length_nil, rowsI_length, rowsP_length, List.length_take, List.length_map, ByteArray.size_append, List.length_zip]; omega) | (refine ⟨rfl, ?_⟩; simp only [okBig, Bool.and_eq_true, decide_eq_true_eq, size_strOfNums, List.length_cons, List.length_nil, rowsI_length, rowsP_length, List.length_take, List.length_map, ByteArray.size_append, List.length_zip]; omega) | (simp only [size_strOfNums, List.length_cons, List.length_nil, rowsI_length, rowsP_length, List.length_take, List.length_map, ByteArray.size_append, List.length_zip]; omega)))) | simp (maxSteps := 1000000) (disch := omega) only [go_sem, wI, wB, Int.toNat_natCast, natS1, natS2, rowsI_at, rowsI_at0, rowsI_get, rowsI_snoc, rowsP_at, rowsP_get, rowsP_snoc, Nat.mul_one, Nat.div_one, Nat.mod_one, tailT_eq, tailV_eq, c120_eq, c121_eq])
  all_goals (try (exfalso; omega))
  · rw [← blockSp_eq, blockSp, if_pos h]; rfl
  · rw [← blockSp_eq, blockSp, if_neg (by omega), if_pos h]; rfl
  · rw [← blockSp_eq, blockSp, if_neg (by omega), if_neg (by omega), if_pos h]; rfl
  · have hT := tailT_len (s := s) (by omega)
    have hV := tailV_len (s := s) (by omega)
    refine LoopK_of (α := Nat) (fun p => ⟨[(15, i64 p), (14, ⟨.one, [.own 2 (rowsP (((tailT s).1.zip (tailV s).1).take p))]⟩), (12, ⟨.one, [.own 1 (rowsI (tailV s).1)]⟩), (10, ⟨.one, [.own 1 (rowsI (tailT s).1)]⟩), (8, i64 (rv (unfS s).1).1)], [], [(0, st1 s)]⟩) (fun p => p ≤ (tailT s).1.length) (fun p => (tailT s).1.length - p) 0 rfl (Nat.zero_le _) ?_
    intro i hi
    by_cases hl : i < (tailT s).1.length
    · simp (maxSteps := 1000000) (disch := omega) only [go_sem, wI, wB, x86, r86_0, r86_1, r86_2, r86_3, r86_4, r86_5, r86_6, r86_7, r86_8, r86_9, r86_10, r86_11, r86_12, r86_13, r86_14, r86_16v, r86_16t, r86_15, r86_17, Int.toNat_natCast, natS1, natS2, rowsI_at, rowsI_at0, rowsI_get, rowsI_snoc, rowsP_at, rowsP_get, rowsP_snoc, Nat.mul_one, Nat.div_one, Nat.mod_one, tailT_eq, tailV_eq, c120_eq, c121_eq]
      repeat' (first | ((with_reducible apply scEnd_of); exact rfl; exact rfl) | ((with_reducible apply ScW_of); rfl; rfl; trivial; (intro h; try simp only [HS] at h)) | ((with_reducible apply Br_of) <;> (intro h; (try simp only [h]); (try simp only [HS] at h))) | ((with_reducible first | refine Opt_put_if ?_ ?_ | refine Opt_if ?_ ?_); (· (first | omega | (refine ⟨?_, ?_⟩ <;> omega) | (refine ⟨?_, ?_, ?_⟩ <;> omega) | (refine ⟨rfl, ?_⟩; simp only [okBig, Bool.and_eq_true, decide_eq_true_eq]; omega) | (refine Nat.le_trans (Nat.add_le_add_left (varS_le _) _) ?_; simp only [size_strOfNums, List.length_cons, List.length_nil, rowsI_length, rowsP_length, List.length_take, List.length_map, ByteArray.size_append, List.length_zip]; omega) | (refine ⟨rfl, ?_⟩; simp only [okBig, Bool.and_eq_true, decide_eq_true_eq, size_strOfNums, List.length_cons, List.length_nil, rowsI_length, rowsP_length, List.length_take, List.length_map, ByteArray.size_append, List.length_zip]; omega) | (simp only [size_strOfNums, List.length_cons, List.length_nil, rowsI_length, rowsP_length, List.length_take, List.length_map, ByteArray.size_append, List.length_zip]; omega)))) | ((with_reducible refine Opt_bind_ifn ?_ ?_); (· omega)) | ((with_reducible first | refine Opt_bind_if ?_ ?_ | refine Opt_ifb ?_ ?_); (· (first | omega | (refine ⟨?_, ?_⟩ <;> omega) | (refine ⟨?_, ?_, ?_⟩ <;> omega) | (refine ⟨rfl, ?_⟩; simp only [okBig, Bool.and_eq_true, decide_eq_true_eq]; omega) | (refine Nat.le_trans (Nat.add_le_add_left (varS_le _) _) ?_; simp only [size_strOfNums, List.length_cons, List.length_nil, rowsI_length, rowsP_length, List.length_take, List.length_map, ByteArray.size_append, List.length_zip]; omega) | (refine ⟨rfl, ?_⟩; simp only [okBig, Bool.and_eq_true, decide_eq_true_eq, size_strOfNums, List.length_cons, List.length_nil, rowsI_length, rowsP_length, List.length_take, List.length_map, ByteArray.size_append, List.length_zip]; omega) | (simp only [size_strOfNums, List.length_cons, List.length_nil, rowsI_length, rowsP_length, List.length_take, List.length_map, ByteArray.size_append, List.length_zip]; omega)))) | simp (maxSteps := 1000000) (disch := omega) only [go_sem, wI, wB, Int.toNat_natCast, natS1, natS2, rowsI_at, rowsI_at0, rowsI_get, rowsI_snoc, rowsP_at, rowsP_get, rowsP_snoc, Nat.mul_one, Nat.div_one, Nat.mod_one, tailT_eq, tailV_eq, c120_eq, c121_eq])
      all_goals (try (exfalso; omega))
      · rw [zip_snoc (by omega) (by omega)]
        exact LoopQ_of (i + 1) rfl (by omega) (by omega)
    · have e : i = (tailT s).1.length := by omega
      subst e
      rw [List.take_of_length_le (by rw [List.length_zip]; omega)]
      simp (maxSteps := 1000000) (disch := omega) only [go_sem, wI, wB, x86, r86_0, r86_1, r86_2, r86_3, r86_4, r86_5, r86_6, r86_7, r86_8, r86_9, r86_10, r86_11, r86_12, r86_13, r86_14, r86_16v, r86_16t, r86_15, r86_17, Int.toNat_natCast, natS1, natS2, rowsI_at, rowsI_at0, rowsI_get, rowsI_snoc, rowsP_at, rowsP_get, rowsP_snoc, Nat.mul_one, Nat.div_one, Nat.mod_one, tailT_eq, tailV_eq, c120_eq, c121_eq]
      repeat' (first | ((with_reducible apply scEnd_of); exact rfl; exact rfl) | ((with_reducible apply ScW_of); rfl; rfl; trivial; (intro h; try simp only [HS] at h)) | ((with_reducible apply Br_of) <;> (intro h; (try simp only [h]); (try simp only [HS] at h))) | ((with_reducible first | refine Opt_put_if ?_ ?_ | refine Opt_if ?_ ?_); (· (first | omega | (refine ⟨?_, ?_⟩ <;> omega) | (refine ⟨?_, ?_, ?_⟩ <;> omega) | (refine ⟨rfl, ?_⟩; simp only [okBig, Bool.and_eq_true, decide_eq_true_eq]; omega) | (refine Nat.le_trans (Nat.add_le_add_left (varS_le _) _) ?_; simp only [size_strOfNums, List.length_cons, List.length_nil, rowsI_length, rowsP_length, List.length_take, List.length_map, ByteArray.size_append, List.length_zip]; omega) | (refine ⟨rfl, ?_⟩; simp only [okBig, Bool.and_eq_true, decide_eq_true_eq, size_strOfNums, List.length_cons, List.length_nil, rowsI_length, rowsP_length, List.length_take, List.length_map, ByteArray.size_append, List.length_zip]; omega) | (simp only [size_strOfNums, List.length_cons, List.length_nil, rowsI_length, rowsP_length, List.length_take, List.length_map, ByteArray.size_append, List.length_zip]; omega)))) | ((with_reducible refine Opt_bind_ifn ?_ ?_); (· omega)) | ((with_reducible first | refine Opt_bind_if ?_ ?_ | refine Opt_ifb ?_ ?_); (· (first | omega | (refine ⟨?_, ?_⟩ <;> omega) | (refine ⟨?_, ?_, ?_⟩ <;> omega) | (refine ⟨rfl, ?_⟩; simp only [okBig, Bool.and_eq_true, decide_eq_true_eq]; omega) | (refine Nat.le_trans (Nat.add_le_add_left (varS_le _) _) ?_; simp only [size_strOfNums, List.length_cons, List.length_nil, rowsI_length, rowsP_length, List.length_take, List.length_map, ByteArray.size_append, List.length_zip]; omega) | (refine ⟨rfl, ?_⟩; simp only [okBig, Bool.and_eq_true, decide_eq_true_eq, size_strOfNums, List.length_cons, List.length_nil, rowsI_length, rowsP_length, List.length_take, List.length_map, ByteArray.size_append, List.length_zip]; omega) | (simp only [size_strOfNums, List.length_cons, List.length_nil, rowsI_length, rowsP_length, List.length_take, List.length_map, ByteArray.size_append, List.length_zip]; omega)))) | simp (maxSteps := 1000000) (disch := omega) only [go_sem, wI, wB, Int.toNat_natCast, natS1, natS2, rowsI_at, rowsI_at0, rowsI_get, rowsI_snoc, rowsP_at, rowsP_get, rowsP_snoc, Nat.mul_one, Nat.div_one, Nat.mod_one, tailT_eq, tailV_eq, c120_eq, c121_eq])
      all_goals (try (exfalso; omega))
      · rw [← blockSp_eq, blockSp, if_neg (by omega), if_neg (by omega), if_neg (by omega)]
noncomputable def c86 : List SV → Refs → Option (SV × List SV × Refs)
  | [⟨.one, [.str s]⟩], [] => some (⟨.tup [(false, 1), (false, 1)], [.own 2 (rowsP (rblock s).1), .bool (rblock s).2]⟩, [⟨.one, [.str s]⟩], [])
  | _, _ => none
theorem ctr86 : Ctr Try.prog 86 c86 := by
  refine ⟨k86, fun args rf res args' rf' h => ?_⟩
  unfold c86 at h
  split at h
  · simp only [Option.some.injEq, Prod.mk.injEq] at h
    obtain ⟨rfl, rfl, rfl⟩ := h
    exact g86 _
  · simp at h
@[go_sem] theorem c86_eq {s : ByteArray} : c86 [⟨.one, [.str s]⟩] [] = some (⟨.tup [(false, 1), (false, 1)], [.own 2 (rowsP (rblock s).1), .bool (rblock s).2]⟩, [⟨.one, [.str s]⟩], []) := rfl

end Go.Eng

namespace Go.Eng
open Go Go.Proofs

def spanP (f t : Int) : Prop := 0 ≤ f ∧ f < t ∧ t ≤ 1099511627776
instance (f t : Int) : Decidable (spanP f t) := inferInstanceAs (Decidable (_ ∧ _))
def E0 : ByteArray := ⟨#[]⟩
open Classical in
noncomputable def opB (k : Int) (key : ByteArray) (f t : Int) (d : ByteArray) : Bool := decide (
  (k = 1 ∧ spanP f t ∧ key = ⟨#[]⟩ ∧ d = ⟨#[]⟩) ∨ ((k = 2 ∨ k = 6) ∧ (0 ≤ f ∧ f ≤ 1099511627776) ∧ key = ⟨#[]⟩ ∧ t = 0 ∧ d = ⟨#[]⟩) ∨ (k = 3 ∧ (0 ≤ f ∧ f ≤ 100000) ∧ key = ⟨#[]⟩ ∧ t = 0 ∧ d = ⟨#[]⟩) ∨
  (k = 4 ∧ (rblock d).2 = true ∧ keyB key = true ∧ f = 0 ∧ t = 0) ∨ (k = 5 ∧ keyB key = true ∧ spanP f t ∧ d = ⟨#[]⟩) ∨ (k = 7 ∧ key = ⟨#[]⟩ ∧ f = 0 ∧ t = 0 ∧ d = ⟨#[]⟩))
def ansB (c i m : Int) (d : ByteArray) : Bool := (decide (0 ≤ c) && decide (c ≤ 4)) && ((decide (0 ≤ i) && decide (i ≤ 100000)) && ((decide (0 ≤ m) && decide (m ≤ 1099511627776)) && decide ((d.size : Int) ≤ 900)))

theorem g135 (k : Int) (key : ByteArray) (f t : Int) (d : ByteArray) : Good Try.prog 135 [⟨.agg, [.int .i64 k, .str key, .int .i64 f, .int .i64 t, .str d]⟩] [] (⟨.one, [.bool (decide (0 ≤ f) && decide (f < t) && decide (t ≤ 1099511627776))]⟩) [⟨.agg, [.int .i64 k, .str key, .int .i64 f, .int .i64 t, .str d]⟩] [] := by
  refine Good_of (E := envOf []) (envOk_of trivial) Try.func135 m135 rfl ?_
  simp (maxSteps := 1000000) (disch := omega) only [go_sem, wI, wB, x135, r135_0, r135_1, Int.toNat_natCast]
  repeat' (first | ((with_reducible apply scEnd_of); exact rfl; exact rfl) | ((with_reducible apply ScW_of); rfl; rfl; trivial; (intro h; try simp only [HS] at h)) | ((with_reducible apply Br_of) <;> (intro h; (try simp only [h]); (try simp only [HS] at h))) | ((with_reducible first | refine Opt_put_if ?_ ?_ | refine Opt_if ?_ ?_); (· (first | omega | (refine ⟨?_, ?_⟩ <;> omega) | (refine ⟨?_, ?_, ?_⟩ <;> omega) | (refine ⟨rfl, ?_⟩; simp only [okBig, Bool.and_eq_true, decide_eq_true_eq]; omega)))) | ((with_reducible refine Opt_bind_ifn ?_ ?_); (· omega)) | ((with_reducible first | refine Opt_bind_if ?_ ?_ | refine Opt_ifb ?_ ?_); (· (first | omega | (refine ⟨?_, ?_⟩ <;> omega) | (refine ⟨?_, ?_, ?_⟩ <;> omega) | (refine ⟨rfl, ?_⟩; simp only [okBig, Bool.and_eq_true, decide_eq_true_eq]; omega)))) | simp (maxSteps := 1000000) (disch := omega) only [go_sem, wI, wB, Int.toNat_natCast])
  all_goals rfl
noncomputable def c135 : List SV → Refs → Option (SV × List SV × Refs)
  | [⟨.agg, [.int .i64 k, .str key, .int .i64 f, .int .i64 t, .str d]⟩], [] => some (⟨.one, [.bool (decide (0 ≤ f) && decide (f < t) && decide (t ≤ 1099511627776))]⟩, [⟨.agg, [.int .i64 k, .str key, .int .i64 f, .int .i64 t, .str d]⟩], [])
  | _, _ => none
theorem ctr135 : Ctr Try.prog 135 c135 := by
  refine ⟨k135, fun args rf res args' rf' h => ?_⟩
  unfold c135 at h
  split at h
  · simp only [Option.some.injEq, Prod.mk.injEq] at h
    obtain ⟨rfl, rfl, rfl⟩ := h
    exact g135 _ _ _ _ _
  · simp at h
@[go_sem] theorem c135_eq {k : Int} {key : ByteArray} {f t : Int} {d : ByteArray} : c135 [⟨.agg, [.int .i64 k, .str key, .int .i64 f, .int .i64 t, .str d]⟩] [] = some (⟨.one, [.bool (decide (0 ≤ f) && decide (f < t) && decide (t ≤ 1099511627776))]⟩, [⟨.agg, [.int .i64 k, .str key, .int .i64 f, .int .i64 t, .str d]⟩], []) := rfl

theorem g112 (k : Int) (key : ByteArray) (f t : Int) (d : ByteArray) (hyp : key.size ≤ 9223372036854775807) : Good Try.prog 112 [⟨.agg, [.int .i64 k, .str key, .int .i64 f, .int .i64 t, .str d]⟩] [] (⟨.one, [.bool (opB k key f t d)]⟩) [⟨.agg, [.int .i64 k, .str key, .int .i64 f, .int .i64 t, .str d]⟩] [] := by
  refine Good_of (E := envOf [(135, c135), (31, c31), (32, c32), (29, c29), (30, c30)]) (envOk_of ⟨ctr135, ⟨ctr31, ⟨ctr32, ⟨ctr29, ⟨ctr30, trivial⟩⟩⟩⟩⟩) Try.func112 m112 rfl ?_
  simp (maxSteps := 1000000) (disch := omega) only [go_sem, wI, wB, x112, r112_0, r112_1, r112_2, r112_3, r112_4, r112_5, r112_6, r112_7, r112_8, r112_9, r112_10, r112_11, r112_12, r112_13, r112_14, r112_15, r112_16, r112_17, r112_18, r112_19, r112_20, r112_21, r112_22, r112_23, r112_24, Int.toNat_natCast, c30_eq]
  repeat' (first | ((with_reducible apply scEnd_of); exact rfl; exact rfl) | ((with_reducible apply ScW_of); rfl; rfl; trivial; (intro h; try simp only [HS] at h)) | ((with_reducible apply Br_of) <;> (intro h; (try simp only [h]); (try simp only [HS] at h))) | ((with_reducible first | refine Opt_put_if ?_ ?_ | refine Opt_if ?_ ?_); (· (first | omega | (refine ⟨?_, ?_⟩ <;> omega) | (refine ⟨?_, ?_, ?_⟩ <;> omega) | (refine ⟨rfl, ?_⟩; simp only [okBig, Bool.and_eq_true, decide_eq_true_eq]; omega)))) | ((with_reducible refine Opt_bind_ifn ?_ ?_); (· omega)) | ((with_reducible first | refine Opt_bind_if ?_ ?_ | refine Opt_ifb ?_ ?_); (· (first | omega | (refine ⟨?_, ?_⟩ <;> omega) | (refine ⟨?_, ?_, ?_⟩ <;> omega) | (refine ⟨rfl, ?_⟩; simp only [okBig, Bool.and_eq_true, decide_eq_true_eq]; omega)))) | simp (maxSteps := 1000000) (disch := omega) only [go_sem, wI, wB, Int.toNat_natCast, c30_eq])
  all_goals (simp only [Prod.mk.injEq, SV.mk.injEq, List.cons.injEq, Cell.bool.injEq, and_true, true_and, opB, eq_comm (a := (⟨#[]⟩ : ByteArray)), eq_comm (a := (0 : Int))]; rw [Bool.eq_iff_iff]; simp only [Bool.and_eq_true, decide_eq_true_eq, spanP]; grind)
noncomputable def c112 : List SV → Refs → Option (SV × List SV × Refs)
  | [⟨.agg, [.int .i64 k, .str key, .int .i64 f, .int .i64 t, .str d]⟩], [] => (open Classical in if key.size ≤ 9223372036854775807 then some (⟨.one, [.bool (opB k key f t d)]⟩, [⟨.agg, [.int .i64 k, .str key, .int .i64 f, .int .i64 t, .str d]⟩], []) else none)
  | _, _ => none
theorem ctr112 : Ctr Try.prog 112 c112 := by
  refine ⟨k112, fun args rf res args' rf' h => ?_⟩
  unfold c112 at h
  split at h
  · split at h
    · rename_i hyp
      simp only [Option.some.injEq, Prod.mk.injEq] at h
      obtain ⟨rfl, rfl, rfl⟩ := h
      exact g112 _ _ _ _ _ hyp
    · simp at h
  · simp at h
theorem c112_eq {k : Int} {key : ByteArray} {f t : Int} {d : ByteArray} (hyp : key.size ≤ 9223372036854775807) : c112 [⟨.agg, [.int .i64 k, .str key, .int .i64 f, .int .i64 t, .str d]⟩] [] = some (⟨.one, [.bool (opB k key f t d)]⟩, [⟨.agg, [.int .i64 k, .str key, .int .i64 f, .int .i64 t, .str d]⟩], []) := if_pos hyp

theorem g28 (k : Int) (key : ByteArray) (f t : Int) (d : ByteArray) : Good Try.prog 28 [⟨.agg, [.int .i64 k, .str key, .int .i64 f, .int .i64 t, .str d]⟩] [] (⟨.one, [.bool (opB k key f t d)]⟩) [⟨.agg, [.int .i64 k, .str key, .int .i64 f, .int .i64 t, .str d]⟩] [] := by
  refine Good_of (E := envOf [(36, c36), (86, c86), (87, c87)]) (envOk_of ⟨ctr36, ⟨ctr86, ⟨ctr87, trivial⟩⟩⟩) Try.func28 m28 rfl ?_
  simp (maxSteps := 1000000) (disch := omega) only [go_sem, wI, wB, x28, r28_0, r28_1, r28_2, r28_3, r28_4, r28_5, r28_6, r28_7, r28_8, r28_9, r28_10, r28_11, r28_12, r28_13, r28_14, r28_15, r28_16, r28_17, r28_18, r28_19, r28_20, r28_21, r28_22, r28_23, r28_24, r28_25, r28_26, r28_27, r28_28, Int.toNat_natCast]
  repeat' (first | ((with_reducible apply scEnd_of); exact rfl; exact rfl) | ((with_reducible apply ScW_of); rfl; rfl; trivial; (intro h; try simp only [HS] at h)) | ((with_reducible apply Br_of) <;> (intro h; (try simp only [h]); (try simp only [HS] at h))) | ((with_reducible first | refine Opt_put_if ?_ ?_ | refine Opt_if ?_ ?_); (· (first | omega | (refine ⟨?_, ?_⟩ <;> omega) | (refine ⟨?_, ?_, ?_⟩ <;> omega) | (refine ⟨rfl, ?_⟩; simp only [okBig, Bool.and_eq_true, decide_eq_true_eq]; omega)))) | ((with_reducible refine Opt_bind_ifn ?_ ?_); (· omega)) | ((with_reducible first | refine Opt_bind_if ?_ ?_ | refine Opt_ifb ?_ ?_); (· (first | omega | (refine ⟨?_, ?_⟩ <;> omega) | (refine ⟨?_, ?_, ?_⟩ <;> omega) | (refine ⟨rfl, ?_⟩; simp only [okBig, Bool.and_eq_true, decide_eq_true_eq]; omega)))) | simp (maxSteps := 1000000) (disch := omega) only [go_sem, wI, wB, Int.toNat_natCast])
  all_goals (simp only [Prod.mk.injEq, SV.mk.injEq, List.cons.injEq, Cell.bool.injEq, and_true, true_and, opB, eq_comm (a := (⟨#[]⟩ : ByteArray)), eq_comm (a := (0 : Int))]; rw [Bool.eq_iff_iff]; simp only [Bool.and_eq_true, decide_eq_true_eq, spanP]; grind)
noncomputable def c28 : List SV → Refs → Option (SV × List SV × Refs)
  | [⟨.agg, [.int .i64 k, .str key, .int .i64 f, .int .i64 t, .str d]⟩], [] => some (⟨.one, [.bool (opB k key f t d)]⟩, [⟨.agg, [.int .i64 k, .str key, .int .i64 f, .int .i64 t, .str d]⟩], [])
  | _, _ => none
theorem ctr28 : Ctr Try.prog 28 c28 := by
  refine ⟨k28, fun args rf res args' rf' h => ?_⟩
  unfold c28 at h
  split at h
  · simp only [Option.some.injEq, Prod.mk.injEq] at h
    obtain ⟨rfl, rfl, rfl⟩ := h
    exact g28 _ _ _ _ _
  · simp at h
@[go_sem] theorem c28_eq {k : Int} {key : ByteArray} {f t : Int} {d : ByteArray} : c28 [⟨.agg, [.int .i64 k, .str key, .int .i64 f, .int .i64 t, .str d]⟩] [] = some (⟨.one, [.bool (opB k key f t d)]⟩, [⟨.agg, [.int .i64 k, .str key, .int .i64 f, .int .i64 t, .str d]⟩], []) := rfl

end Go.Eng

namespace Go.Eng
open Go

/-! ### Ops and answers as texts -/
structure OpV where
  k : Int
  key : ByteArray
  f : Int
  t : Int
  d : ByteArray
noncomputable def OpV.okB (o : OpV) : Bool := opB o.k o.key o.f o.t o.d
def OpV.zero : OpV := ⟨0, ⟨#[]⟩, 0, 0, ⟨#[]⟩⟩
def opT (o : OpV) : ByteArray := strOfNums [o.k] ++ varS o.key.size ++ o.key ++ varS o.f ++ varS o.t ++ o.d
noncomputable def opS (o : OpV) : ByteArray := if o.okB = true then opT o else ⟨#[]⟩
theorem keyB_size {s : ByteArray} (h : keyB s = true) : 1 ≤ s.size ∧ s.size ≤ 8 := by
  simp only [keyB, Bool.and_eq_true, decide_eq_true_eq] at h
  omega
theorem okB_rng {o : OpV} (h : o.okB = true) : (1 ≤ o.k ∧ o.k ≤ 7) ∧ o.key.size ≤ 8 ∧ (0 ≤ o.f ∧ o.f ≤ 1099511627776) ∧ (0 ≤ o.t ∧ o.t ≤ 1099511627776) := by
  unfold OpV.okB opB at h
  have h := of_decide_eq_true h
  simp only [spanP] at h
  have e : (⟨#[]⟩ : ByteArray).size = 0 := rfl
  rcases h with ⟨h1, h2, h3, h4⟩ | ⟨h1, h2, h3, h4, h5⟩ | ⟨h1, h2, h3, h4, h5⟩ | ⟨h1, h2, h3, h4, h5⟩ | ⟨h1, h2, h3, h4⟩ | ⟨h1, h2, h3, h4, h5⟩
  · rw [h3]; omega
  · rw [h3]; omega
  · rw [h3]; omega
  · have := keyB_size h3; omega
  · have := keyB_size h2; omega
  · rw [h2]; omega
theorem opT_bytes {o : OpV} (h : o.okB = true) : bytes (opT o) = o.k :: (varL o.key.size ++ (bytes o.key ++ (varL o.f.toNat ++ (varL o.t.toNat ++ bytes o.d)))) := by
  have hr := okB_rng h
  unfold opT
  rw [bytes_append, bytes_append, bytes_append, bytes_append, bytes_append, bytes_str (by rw [isB_cons]; exact ⟨by omega, isB_nil⟩), varS_ok (x := (o.key.size : Int)) (by unfold okN; omega), varS_ok (x := o.f) (by unfold okN; omega), varS_ok (x := o.t) (by unfold okN; omega),
    bytes_str (varL_isB _), bytes_str (varL_isB _), bytes_str (varL_isB _), Int.toNat_natCast]
  simp only [List.append_assoc, List.singleton_append, List.cons_append, List.nil_append]
theorem rdBytes_app {s : ByteArray} {x t : List Int} (h : bytes s = x ++ t) : ∃ s', rdBytes ⟨s, true⟩ x.length = (strOfNums x, ⟨s', true⟩) ∧ bytes s' = t := by
  have hl := congrArg List.length h
  rw [bytes_length, List.length_append] at hl
  refine ⟨s.extract x.length s.size, ?_, by rw [bytes_tail, h, List.drop_left]⟩
  unfold rdBytes
  rw [if_neg (by simp only [Bool.true_eq_false, false_or]; omega)]
  simp only [Int.toNat_natCast, Prod.mk.injEq, and_true]
  apply str_inj
  have hx : isB x := (isB_append.1 (h ▸ isB_bytes s)).1
  rw [bytes_extract, List.drop_zero, h, List.take_left, bytes_str hx]
theorem rdPiece_app {s : ByteArray} {p : ByteArray} {t : List Int} (hp : p.size ≤ 562949953421311) (h : bytes s = varL p.size ++ (bytes p ++ t)) : ∃ s', rdPiece ⟨s, true⟩ = (p, ⟨s', true⟩) ∧ bytes s' = t := by
  obtain ⟨s1, h1, h2⟩ := rdNum_var (n := (p.size : Int)) (by unfold okN; omega) (by rw [Int.toNat_natCast]; exact h)
  obtain ⟨s2, h3, h4⟩ := rdBytes_app h2
  refine ⟨s2, ?_, h4⟩
  unfold rdPiece
  rw [h1]
  rw [bytes_length, str_bytes] at h3
  exact h3
theorem rdKind_app {s : ByteArray} {b : Int} {t : List Int} (h : bytes s = b :: t) : ∃ s', rdKind ⟨s, true⟩ = (b, ⟨s', true⟩) ∧ bytes s' = t := by
  obtain ⟨s1, h1, h2⟩ := rdBytes_app (x := [b]) (t := t) h
  have hb : isB [b] := (isB_append.1 (show isB ([b] ++ t) by rw [List.singleton_append, ← h]; exact isB_bytes s)).1
  refine ⟨s1, ?_, h2⟩
  unfold rdKind
  have h1 : rdBytes ⟨s, true⟩ 1 = (strOfNums [b], ⟨s1, true⟩) := h1
  rw [h1]
  simp only
  rw [if_neg, byteAt_bytes, bytes_str hb]; rfl
  intro e
  have := congrArg ByteArray.size e
  rw [size_strOfNums] at this
  simp at this
  have e2 : (⟨#[]⟩ : ByteArray).size = 0 := rfl
  omega

/-- The op that a text is; how impl reads it. -/
def ropR (s : ByteArray) : OpV × Rd :=
  (⟨(rdKind ⟨s, true⟩).1, (rdPiece (rdKind ⟨s, true⟩).2).1, (rdNum (rdPiece (rdKind ⟨s, true⟩).2).2).1, (rdNum (rdNum (rdPiece (rdKind ⟨s, true⟩).2).2).2).1, (rdNum (rdNum (rdPiece (rdKind ⟨s, true⟩).2).2).2).2.s⟩,
   (rdNum (rdNum (rdPiece (rdKind ⟨s, true⟩).2).2).2).2)
def OpAt (s : ByteArray) (o : OpV) : Prop := o.okB = true ∧ s = opT o
theorem ropR_of {s : ByteArray} {o : OpV} (h : OpAt s o) : (ropR s).1 = o ∧ (ropR s).2.ok = true := by
  have hr := okB_rng h.1
  have hb : bytes s = _ := h.2 ▸ opT_bytes h.1
  obtain ⟨s1, a1, b1⟩ := rdKind_app hb
  obtain ⟨s2, a2, b2⟩ := rdPiece_app (by omega) b1
  obtain ⟨s3, a3, b3⟩ := rdNum_var (by unfold okN; omega) b2
  obtain ⟨s4, a4, b4⟩ := rdNum_var (by unfold okN; omega) b3
  unfold ropR
  rw [a1]; simp only
  rw [a2]; simp only
  rw [a3]; simp only
  rw [a4]; simp only
  have e : s4 = o.d := str_inj b4
  rw [e]
  exact ⟨rfl, trivial⟩
theorem OpAt.uniq {s : ByteArray} {o o' : OpV} (h : OpAt s o) (h' : OpAt s o') : o = o' := by rw [← (ropR_of h).1, (ropR_of h').1]
open Classical in
noncomputable def rop (s : ByteArray) : OpV × Bool := if h : ∃ o, OpAt s o then (Classical.choose h, true) else (OpV.zero, false)
theorem rop_cases (s : ByteArray) : (∃ o, OpAt s o ∧ rop s = (o, true)) ∨ ((∀ o, ¬OpAt s o) ∧ rop s = (OpV.zero, false)) := by
  unfold rop
  by_cases h : ∃ o, OpAt s o
  · rw [dif_pos h]; exact .inl ⟨_, Classical.choose_spec h, rfl⟩
  · rw [dif_neg h]; exact .inr ⟨fun o ho => h ⟨o, ho⟩, rfl⟩
theorem opS_at {s : ByteArray} {o : OpV} (h : opS o = s) (hs : s ≠ ⟨#[]⟩) : OpAt s o := by
  unfold opS at h
  split at h
  · rename_i hk; exact ⟨hk, h.symm⟩
  · exact absurd h.symm hs
theorem opS_of {s : ByteArray} {o : OpV} (h : OpAt s o) : opS o = s := by unfold opS; rw [if_pos h.1]; exact h.2.symm
theorem rdKind_nil : (rdKind ⟨⟨#[]⟩, true⟩).2.ok = false := by
  have hb : rdBytes ⟨⟨#[]⟩, true⟩ 1 = (⟨#[]⟩, ⟨⟨#[]⟩, false⟩) := by
    unfold rdBytes
    exact if_pos (Or.inr (show ((0 : Nat) : Int) < 1 by omega))
  unfold rdKind
  rw [hb]
theorem rdNum_bad {s : ByteArray} : (rdNum ⟨s, false⟩).2.ok = false := by unfold rdNum; simp
theorem rdNum_badR {r : Rd} (h : r.ok = false) : (rdNum r).2.ok = false := by unfold rdNum; simp [h]
theorem rdBytes_bad {r : Rd} {n : Int} (h : r.ok = false) : (rdBytes r n).2.ok = false := by unfold rdBytes; simp [h]
theorem rdPiece_bad {r : Rd} (h : r.ok = false) : (rdPiece r).2.ok = false := rdBytes_bad (rdNum_badR h)
theorem ropR_nil : (ropR ⟨#[]⟩).2.ok = false := rdNum_badR (rdNum_badR (rdPiece_bad rdKind_nil))
/-- impl.ReadOp's answer. -/
theorem ropI_eq (s : ByteArray) : rop s = if (ropR s).2.ok = true ∧ opS (ropR s).1 = s then ((ropR s).1, true) else (OpV.zero, false) := by
  rcases rop_cases s with ⟨o, h, e⟩ | ⟨h, e⟩
  · rw [e]
    obtain ⟨h1, h2⟩ := ropR_of h
    rw [h1, if_pos ⟨h2, opS_of h⟩]
  · rw [e]
    split
    · rename_i hc
      have hs : s ≠ ⟨#[]⟩ := by
        rintro rfl
        rw [ropR_nil] at hc; simp at hc
      exact absurd (opS_at hc.2 hs) (h _)
    · rfl
/-- How spec reads it. -/
theorem finV_rest {b v r : List Int} {n : Nat} {z : Nat} (h : varsO n b = some (v, r)) (hb : isB b) (hz : b.length ≤ z) : 0 ≤ finV z (varsO n b) ∧ finV z (varsO n b) ≤ z := by
  obtain ⟨_, _, h3⟩ := varsO_some n b v r hb h
  have := congrArg List.length h3
  rw [List.length_append] at this
  rw [h, finV]
  omega
noncomputable def sopR (s : ByteArray) : Option OpV :=
  if finV s.size (varsO 1 ((bytes s).drop 1)) < 0 ∨ 8 < (varsV 1 ((bytes s).drop 1)).getD 0 0 ∨ (s.size : Int) - finV s.size (varsO 1 ((bytes s).drop 1)) < (varsV 1 ((bytes s).drop 1)).getD 0 0 then none
  else if finV s.size (varsO 2 ((bytes s).drop (finV s.size (varsO 1 ((bytes s).drop 1)) + (varsV 1 ((bytes s).drop 1)).getD 0 0).toNat)) < 0 then none
  else some ⟨byteAt s 0, s.extract (finV s.size (varsO 1 ((bytes s).drop 1))).toNat (finV s.size (varsO 1 ((bytes s).drop 1)) + (varsV 1 ((bytes s).drop 1)).getD 0 0).toNat,
    (varsV 2 ((bytes s).drop (finV s.size (varsO 1 ((bytes s).drop 1)) + (varsV 1 ((bytes s).drop 1)).getD 0 0).toNat)).getD 0 0,
    (varsV 2 ((bytes s).drop (finV s.size (varsO 1 ((bytes s).drop 1)) + (varsV 1 ((bytes s).drop 1)).getD 0 0).toNat)).getD 1 0,
    s.extract (finV s.size (varsO 2 ((bytes s).drop (finV s.size (varsO 1 ((bytes s).drop 1)) + (varsV 1 ((bytes s).drop 1)).getD 0 0).toNat))).toNat s.size⟩
theorem varsO_one {x : Nat} (h : x ≤ 562949953421311) (t : List Int) : varsO 1 (varL x ++ t) = some ([(x : Int)], t) := by
  simp only [varsO, rvO_var h, List.drop_left]
theorem varsO_two {x y : Nat} (h : x ≤ 562949953421311) (h2 : y ≤ 562949953421311) (t : List Int) : varsO 2 (varL x ++ (varL y ++ t)) = some ([(x : Int), (y : Int)], t) := by
  simp only [varsO, rvO_var h, List.drop_left, rvO_var h2]
theorem sopR_of {s : ByteArray} {o : OpV} (h : OpAt s o) : sopR s = some o := by
  have hr := okB_rng h.1
  have hb : bytes s = _ := h.2 ▸ opT_bytes h.1
  have hl := congrArg List.length hb
  simp only [bytes_length, List.length_cons, List.length_append] at hl
  have d1 : (bytes s).drop 1 = varL o.key.size ++ (bytes o.key ++ (varL o.f.toNat ++ (varL o.t.toNat ++ bytes o.d))) := by rw [hb]; rfl
  have v1 := varsO_one (x := o.key.size) (by omega) (bytes o.key ++ (varL o.f.toNat ++ (varL o.t.toNat ++ bytes o.d)))
  rw [← d1] at v1
  have w1 := varsV_of _ _ _ _ v1
  have f1 : finV s.size (varsO 1 ((bytes s).drop 1)) = 1 + ((varL o.key.size).length : Int) := by
    rw [v1, finV]; simp only [List.length_append, bytes_length]; omega
  have e1 : (finV s.size (varsO 1 ((bytes s).drop 1)) + (varsV 1 ((bytes s).drop 1)).getD 0 0).toNat = 1 + (varL o.key.size).length + o.key.size := by
    rw [f1, w1]; simp only [List.getD_cons_zero]; omega
  have d2 : (bytes s).drop (1 + (varL o.key.size).length + o.key.size) = varL o.f.toNat ++ (varL o.t.toNat ++ bytes o.d) := by
    rw [← List.drop_drop, ← List.drop_drop, d1, List.drop_left, ← bytes_length o.key, List.drop_left]
  have v2 := varsO_two (x := o.f.toNat) (y := o.t.toNat) (by omega) (by omega) (bytes o.d)
  have w2 := varsV_of _ _ _ _ v2
  have f2 : finV s.size (varsO 2 (varL o.f.toNat ++ (varL o.t.toNat ++ bytes o.d))) = ((1 + (varL o.key.size).length + o.key.size + (varL o.f.toNat).length + (varL o.t.toNat).length : Nat) : Int) := by
    rw [v2, finV, bytes_length]; omega
  unfold sopR
  rw [e1, d2, f2, w2, f1, w1]
  simp only [List.getD_cons_zero, List.getD_cons_succ]
  rw [if_neg (by omega), if_neg (by omega)]
  congr 1
  have k0 : byteAt s 0 = o.k := by rw [byteAt_bytes, hb]; rfl
  have kk : s.extract (1 + ((varL o.key.size).length : Int)).toNat (1 + (varL o.key.size).length + o.key.size) = o.key := by
    apply str_inj
    rw [show (1 + ((varL o.key.size).length : Int)).toNat = 1 + (varL o.key.size).length by omega, bytes_extract, List.drop_take, ← List.drop_drop, d1, List.drop_left,
      show 1 + (varL o.key.size).length + o.key.size - (1 + (varL o.key.size).length) = (bytes o.key).length by rw [bytes_length]; omega, List.take_left]
  have kd : s.extract (((1 + (varL o.key.size).length + o.key.size + (varL o.f.toNat).length + (varL o.t.toNat).length : Nat) : Int)).toNat s.size = o.d := by
    apply str_inj
    rw [bytes_tail, Int.toNat_natCast, ← List.drop_drop, ← List.drop_drop, d2, List.drop_left, List.drop_left]
  rw [k0, kk, kd, show ((o.f.toNat : Nat) : Int) = o.f by omega, show ((o.t.toNat : Nat) : Int) = o.t by omega]
theorem sopR_nil : sopR ⟨#[]⟩ = none := by
  unfold sopR
  rw [if_pos]
  left
  show finV 0 (varsO 1 []) < 0
  have : varsO 1 [] = none := rfl
  rw [this, finV]; omega
theorem ropS_eq (s : ByteArray) : rop s = match sopR s with
    | some o => if opS o = s then (o, true) else (OpV.zero, false)
    | none => (OpV.zero, false) := by
  rcases rop_cases s with ⟨o, h, e⟩ | ⟨h, e⟩
  · rw [e, sopR_of h]
    simp only
    rw [if_pos (opS_of h)]
  · rw [e]
    split
    · rename_i o ho
      split
      · rename_i hc
        have hs : s ≠ ⟨#[]⟩ := by
          rintro rfl
          rw [sopR_nil] at ho; simp at ho
        exact absurd (opS_at hc hs) (h _)
      · rfl
    · rfl
end Go.Eng

namespace Go.Eng
open Go

structure AnsV where
  c : Int
  i : Int
  m : Int
  d : ByteArray
def AnsV.okB (a : AnsV) : Bool := ansB a.c a.i a.m a.d
def AnsV.zero : AnsV := ⟨0, 0, 0, ⟨#[]⟩⟩
def ansT (a : AnsV) : ByteArray := varS a.c ++ varS a.i ++ varS a.m ++ a.d
def ansS (a : AnsV) : ByteArray := if a.okB = true then ansT a else ⟨#[]⟩
theorem ansB_rng {a : AnsV} (h : a.okB = true) : (0 ≤ a.c ∧ a.c ≤ 4) ∧ (0 ≤ a.i ∧ a.i ≤ 100000) ∧ (0 ≤ a.m ∧ a.m ≤ 1099511627776) ∧ (a.d.size : Int) ≤ 900 := by
  unfold AnsV.okB ansB at h
  simpa only [Bool.and_eq_true, decide_eq_true_eq] using h
theorem ansT_bytes {a : AnsV} (h : a.okB = true) : bytes (ansT a) = varL a.c.toNat ++ (varL a.i.toNat ++ (varL a.m.toNat ++ bytes a.d)) := by
  have hr := ansB_rng h
  unfold ansT
  rw [bytes_append, bytes_append, bytes_append, varS_ok (x := a.c) (by unfold okN; omega), varS_ok (x := a.i) (by unfold okN; omega), varS_ok (x := a.m) (by unfold okN; omega),
    bytes_str (varL_isB _), bytes_str (varL_isB _), bytes_str (varL_isB _)]
  simp only [List.append_assoc]
def ransR (s : ByteArray) : AnsV × Rd :=
  (⟨(rdNum ⟨s, true⟩).1, (rdNum (rdNum ⟨s, true⟩).2).1, (rdNum (rdNum (rdNum ⟨s, true⟩).2).2).1, (rdNum (rdNum (rdNum ⟨s, true⟩).2).2).2.s⟩, (rdNum (rdNum (rdNum ⟨s, true⟩).2).2).2)
def AnsAt (s : ByteArray) (a : AnsV) : Prop := a.okB = true ∧ s = ansT a
theorem ransR_of {s : ByteArray} {a : AnsV} (h : AnsAt s a) : (ransR s).1 = a ∧ (ransR s).2.ok = true := by
  have hr := ansB_rng h.1
  have hb : bytes s = _ := h.2 ▸ ansT_bytes h.1
  obtain ⟨s1, a1, b1⟩ := rdNum_var (by unfold okN; omega) hb
  obtain ⟨s2, a2, b2⟩ := rdNum_var (by unfold okN; omega) b1
  obtain ⟨s3, a3, b3⟩ := rdNum_var (by unfold okN; omega) b2
  unfold ransR
  rw [a1]; simp only
  rw [a2]; simp only
  rw [a3]; simp only
  have e : s3 = a.d := str_inj b3
  rw [e]
  exact ⟨rfl, trivial⟩
theorem AnsAt.uniq {s : ByteArray} {o o' : AnsV} (h : AnsAt s o) (h' : AnsAt s o') : o = o' := by rw [← (ransR_of h).1, (ransR_of h').1]
open Classical in
noncomputable def rans (s : ByteArray) : AnsV × Bool := if h : ∃ o, AnsAt s o then (Classical.choose h, true) else (AnsV.zero, false)
theorem rans_cases (s : ByteArray) : (∃ o, AnsAt s o ∧ rans s = (o, true)) ∨ ((∀ o, ¬AnsAt s o) ∧ rans s = (AnsV.zero, false)) := by
  unfold rans
  by_cases h : ∃ o, AnsAt s o
  · rw [dif_pos h]; exact .inl ⟨_, Classical.choose_spec h, rfl⟩
  · rw [dif_neg h]; exact .inr ⟨fun o ho => h ⟨o, ho⟩, rfl⟩
theorem ansS_at {s : ByteArray} {o : AnsV} (h : ansS o = s) (hs : s ≠ ⟨#[]⟩) : AnsAt s o := by
  unfold ansS at h
  split at h
  · rename_i hk; exact ⟨hk, h.symm⟩
  · exact absurd h.symm hs
theorem ansS_of {s : ByteArray} {o : AnsV} (h : AnsAt s o) : ansS o = s := by unfold ansS; rw [if_pos h.1]; exact h.2.symm
theorem rv_nil : rv ⟨#[]⟩ = (0, 0) := rfl
theorem rdNum_nil : (rdNum ⟨⟨#[]⟩, true⟩).2.ok = false := by
  unfold rdNum
  simp only [rv_nil]
  rfl
theorem ransI_eq (s : ByteArray) : rans s = if (ransR s).2.ok = true ∧ ansS (ransR s).1 = s then ((ransR s).1, true) else (AnsV.zero, false) := by
  rcases rans_cases s with ⟨o, h, e⟩ | ⟨h, e⟩
  · rw [e]
    obtain ⟨h1, h2⟩ := ransR_of h
    rw [h1, if_pos ⟨h2, ansS_of h⟩]
  · rw [e]
    split
    · rename_i hc
      have hs : s ≠ ⟨#[]⟩ := by
        rintro rfl
        have : (ransR ⟨#[]⟩).2.ok = false := rdNum_badR (rdNum_badR rdNum_nil)
        rw [this] at hc; simp at hc
      exact absurd (ansS_at hc.2 hs) (h _)
    · rfl
theorem varsO_three {x y z : Nat} (h : x ≤ 562949953421311) (h2 : y ≤ 562949953421311) (h3 : z ≤ 562949953421311) (t : List Int) : varsO 3 (varL x ++ (varL y ++ (varL z ++ t))) = some ([(x : Int), (y : Int), (z : Int)], t) := by
  simp only [varsO, rvO_var h, List.drop_left, rvO_var h2, rvO_var h3]
noncomputable def sansR (s : ByteArray) : Option AnsV :=
  if finV s.size (varsO 3 ((bytes s).drop 0)) < 0 then none
  else some ⟨(varsV 3 ((bytes s).drop 0)).getD 0 0, (varsV 3 ((bytes s).drop 0)).getD 1 0, (varsV 3 ((bytes s).drop 0)).getD 2 0, s.extract (finV s.size (varsO 3 ((bytes s).drop 0))).toNat s.size⟩
theorem sansR_of {s : ByteArray} {o : AnsV} (h : AnsAt s o) : sansR s = some o := by
  have hr := ansB_rng h.1
  have hb : bytes s = _ := h.2 ▸ ansT_bytes h.1
  have hl := congrArg List.length hb
  simp only [bytes_length, List.length_append] at hl
  have v1 := varsO_three (x := o.c.toNat) (y := o.i.toNat) (z := o.m.toNat) (by omega) (by omega) (by omega) (bytes o.d)
  rw [← hb] at v1
  have w1 := varsV_of _ _ _ _ v1
  have f1 : finV s.size (varsO 3 (bytes s)) = (((varL o.c.toNat).length + (varL o.i.toNat).length + (varL o.m.toNat).length : Nat) : Int) := by
    rw [v1, finV, bytes_length]; omega
  unfold sansR
  rw [List.drop_zero, f1, w1]
  simp only [List.getD_cons_zero, List.getD_cons_succ]
  rw [if_neg (by omega)]
  congr 1
  have kd : s.extract (((varL o.c.toNat).length + (varL o.i.toNat).length + (varL o.m.toNat).length : Nat) : Int).toNat s.size = o.d := by
    apply str_inj
    rw [bytes_tail, Int.toNat_natCast, ← List.drop_drop, ← List.drop_drop, hb, List.drop_left, List.drop_left, List.drop_left]
  rw [kd, show ((o.c.toNat : Nat) : Int) = o.c by omega, show ((o.i.toNat : Nat) : Int) = o.i by omega, show ((o.m.toNat : Nat) : Int) = o.m by omega]
theorem ransS_eq (s : ByteArray) : rans s = match sansR s with
    | some o => if ansS o = s then (o, true) else (AnsV.zero, false)
    | none => (AnsV.zero, false) := by
  rcases rans_cases s with ⟨o, h, e⟩ | ⟨h, e⟩
  · rw [e, sansR_of h]
    simp only
    rw [if_pos (ansS_of h)]
  · rw [e]
    split
    · rename_i o ho
      split
      · rename_i hc
        have hs : s ≠ ⟨#[]⟩ := by
          rintro rfl
          have : sansR ⟨#[]⟩ = none := by
            unfold sansR
            have : varsO 3 ((bytes ⟨#[]⟩).drop 0) = none := rfl
            rw [this, finV, if_pos (by omega)]
          rw [this] at ho; simp at ho
        exact absurd (ansS_at hc hs) (h _)
      · rfl
    · rfl
end Go.Eng

namespace Go.Eng
open Go Go.Proofs

theorem g100 (k : Int) (key : ByteArray) (f t : Int) (d : ByteArray) (hyp : key.size ≤ 1152921504606846976 ∧ d.size ≤ 1152921504606846976) : Good Try.prog 100 [⟨.agg, [.int .i64 k, .str key, .int .i64 f, .int .i64 t, .str d]⟩] [] (⟨.one, [.str (opS ⟨k, key, f, t, d⟩)]⟩) [⟨.agg, [.int .i64 k, .str key, .int .i64 f, .int .i64 t, .str d]⟩] [] := by
  refine Good_of (E := envOf [(57, c57), (112, c112)]) (envOk_of ⟨ctr57, ⟨ctr112, trivial⟩⟩) Try.func100 m100 rfl ?_
  have z1 := varS_le key.size
  have z2 := varS_le f
  have z3 := varS_le t
  simp (maxSteps := 1000000) (disch := omega) only [go_sem, wI, wB, x100, r100_0, r100_1, r100_2, r100_3v, r100_3t, Int.toNat_natCast, natS1, natS2, rowsI_at, rowsI_at0, rowsI_get, rowsI_snoc, Nat.mul_one, Nat.div_one, Nat.mod_one, c112_eq]
  repeat' (first | ((with_reducible apply scEnd_of); exact rfl; exact rfl) | ((with_reducible apply ScW_of); rfl; rfl; trivial; (intro h; try simp only [HS] at h)) | ((with_reducible apply Br_of) <;> (intro h; (try simp only [h]); (try simp only [HS] at h))) | ((with_reducible first | refine Opt_put_if ?_ ?_ | refine Opt_if ?_ ?_); (· (first | omega | (refine ⟨?_, ?_⟩ <;> omega) | (refine ⟨?_, ?_, ?_⟩ <;> omega) | (refine ⟨rfl, ?_⟩; simp only [okBig, Bool.and_eq_true, decide_eq_true_eq]; omega) | (refine Nat.le_trans (Nat.add_le_add_left (varS_le _) _) ?_; simp only [size_strOfNums, List.length_cons, List.length_nil, rowsI_length, ByteArray.size_append]; omega) | (refine ⟨rfl, ?_⟩; simp only [okBig, Bool.and_eq_true, decide_eq_true_eq, size_strOfNums, List.length_cons, List.length_nil, rowsI_length, ByteArray.size_append]; omega) | (simp only [size_strOfNums, List.length_cons, List.length_nil, rowsI_length, ByteArray.size_append]; omega)))) | ((with_reducible refine Opt_bind_ifn ?_ ?_); (· omega)) | ((with_reducible first | refine Opt_bind_if ?_ ?_ | refine Opt_ifb ?_ ?_); (· (first | omega | (refine ⟨?_, ?_⟩ <;> omega) | (refine ⟨?_, ?_, ?_⟩ <;> omega) | (refine ⟨rfl, ?_⟩; simp only [okBig, Bool.and_eq_true, decide_eq_true_eq]; omega) | (refine Nat.le_trans (Nat.add_le_add_left (varS_le _) _) ?_; simp only [size_strOfNums, List.length_cons, List.length_nil, rowsI_length, ByteArray.size_append]; omega) | (refine ⟨rfl, ?_⟩; simp only [okBig, Bool.and_eq_true, decide_eq_true_eq, size_strOfNums, List.length_cons, List.length_nil, rowsI_length, ByteArray.size_append]; omega) | (simp only [size_strOfNums, List.length_cons, List.length_nil, rowsI_length, ByteArray.size_append]; omega)))) | simp (maxSteps := 1000000) (disch := omega) only [go_sem, wI, wB, Int.toNat_natCast, natS1, natS2, rowsI_at, rowsI_at0, rowsI_get, rowsI_snoc, Nat.mul_one, Nat.div_one, Nat.mod_one, c112_eq])
  · rw [opS, if_neg (by rw [OpV.okB, h]; simp)]
  · have hk := okB_rng (o := ⟨k, key, f, t, d⟩) h
    simp only at hk
    rw [wB (by omega) (by omega), opS, if_pos (show OpV.okB ⟨k, key, f, t, d⟩ = true from h)]; rfl
noncomputable def c100 : List SV → Refs → Option (SV × List SV × Refs)
  | [⟨.agg, [.int .i64 k, .str key, .int .i64 f, .int .i64 t, .str d]⟩], [] => (open Classical in if key.size ≤ 1152921504606846976 ∧ d.size ≤ 1152921504606846976 then some (⟨.one, [.str (opS ⟨k, key, f, t, d⟩)]⟩, [⟨.agg, [.int .i64 k, .str key, .int .i64 f, .int .i64 t, .str d]⟩], []) else none)
  | _, _ => none
theorem ctr100 : Ctr Try.prog 100 c100 := by
  refine ⟨k100, fun args rf res args' rf' h => ?_⟩
  unfold c100 at h
  split at h
  · split at h
    · rename_i hyp
      simp only [Option.some.injEq, Prod.mk.injEq] at h
      obtain ⟨rfl, rfl, rfl⟩ := h
      exact g100 _ _ _ _ _ hyp
    · simp at h
  · simp at h
theorem c100_eq {k : Int} {key : ByteArray} {f t : Int} {d : ByteArray} (hyp : key.size ≤ 1152921504606846976 ∧ d.size ≤ 1152921504606846976) : c100 [⟨.agg, [.int .i64 k, .str key, .int .i64 f, .int .i64 t, .str d]⟩] [] = some (⟨.one, [.str (opS ⟨k, key, f, t, d⟩)]⟩, [⟨.agg, [.int .i64 k, .str key, .int .i64 f, .int .i64 t, .str d]⟩], []) := if_pos hyp

theorem g94 (k : Int) (key : ByteArray) (f t : Int) (d : ByteArray) (hyp : key.size ≤ 1152921504606846976 ∧ d.size ≤ 1152921504606846976) : Good Try.prog 94 [⟨.agg, [.int .i64 k, .str key, .int .i64 f, .int .i64 t, .str d]⟩] [] (⟨.one, [.str (opS ⟨k, key, f, t, d⟩)]⟩) [⟨.agg, [.int .i64 k, .str key, .int .i64 f, .int .i64 t, .str d]⟩] [] := by
  refine Good_of (E := envOf [(28, c28), (53, c53)]) (envOk_of ⟨ctr28, ⟨ctr53, trivial⟩⟩) Try.func94 m94 rfl ?_
  have z1 := varS_le key.size
  have z2 := varS_le f
  have z3 := varS_le t
  simp (maxSteps := 1000000) (disch := omega) only [go_sem, wI, wB, x94, r94_0, r94_1, r94_2, r94_3v, r94_3t, Int.toNat_natCast, natS1, natS2, rowsI_at, rowsI_at0, rowsI_get, rowsI_snoc, Nat.mul_one, Nat.div_one, Nat.mod_one]
  repeat' (first | ((with_reducible apply scEnd_of); exact rfl; exact rfl) | ((with_reducible apply ScW_of); rfl; rfl; trivial; (intro h; try simp only [HS] at h)) | ((with_reducible apply Br_of) <;> (intro h; (try simp only [h]); (try simp only [HS] at h))) | ((with_reducible first | refine Opt_put_if ?_ ?_ | refine Opt_if ?_ ?_); (· (first | omega | (refine ⟨?_, ?_⟩ <;> omega) | (refine ⟨?_, ?_, ?_⟩ <;> omega) | (refine ⟨rfl, ?_⟩; simp only [okBig, Bool.and_eq_true, decide_eq_true_eq]; omega) | (refine Nat.le_trans (Nat.add_le_add_left (varS_le _) _) ?_; simp only [size_strOfNums, List.length_cons, List.length_nil, rowsI_length, ByteArray.size_append]; omega) | (refine ⟨rfl, ?_⟩; simp only [okBig, Bool.and_eq_true, decide_eq_true_eq, size_strOfNums, List.length_cons, List.length_nil, rowsI_length, ByteArray.size_append]; omega) | (simp only [size_strOfNums, List.length_cons, List.length_nil, rowsI_length, ByteArray.size_append]; omega)))) | ((with_reducible refine Opt_bind_ifn ?_ ?_); (· omega)) | ((with_reducible first | refine Opt_bind_if ?_ ?_ | refine Opt_ifb ?_ ?_); (· (first | omega | (refine ⟨?_, ?_⟩ <;> omega) | (refine ⟨?_, ?_, ?_⟩ <;> omega) | (refine ⟨rfl, ?_⟩; simp only [okBig, Bool.and_eq_true, decide_eq_true_eq]; omega) | (refine Nat.le_trans (Nat.add_le_add_left (varS_le _) _) ?_; simp only [size_strOfNums, List.length_cons, List.length_nil, rowsI_length, ByteArray.size_append]; omega) | (refine ⟨rfl, ?_⟩; simp only [okBig, Bool.and_eq_true, decide_eq_true_eq, size_strOfNums, List.length_cons, List.length_nil, rowsI_length, ByteArray.size_append]; omega) | (simp only [size_strOfNums, List.length_cons, List.length_nil, rowsI_length, ByteArray.size_append]; omega)))) | simp (maxSteps := 1000000) (disch := omega) only [go_sem, wI, wB, Int.toNat_natCast, natS1, natS2, rowsI_at, rowsI_at0, rowsI_get, rowsI_snoc, Nat.mul_one, Nat.div_one, Nat.mod_one])
  · rw [opS, if_neg (by rw [OpV.okB, h]; simp)]
  · have hk := okB_rng (o := ⟨k, key, f, t, d⟩) h
    simp only at hk
    rw [wB (by omega) (by omega), opS, if_pos (show OpV.okB ⟨k, key, f, t, d⟩ = true from h)]; rfl
noncomputable def c94 : List SV → Refs → Option (SV × List SV × Refs)
  | [⟨.agg, [.int .i64 k, .str key, .int .i64 f, .int .i64 t, .str d]⟩], [] => (open Classical in if key.size ≤ 1152921504606846976 ∧ d.size ≤ 1152921504606846976 then some (⟨.one, [.str (opS ⟨k, key, f, t, d⟩)]⟩, [⟨.agg, [.int .i64 k, .str key, .int .i64 f, .int .i64 t, .str d]⟩], []) else none)
  | _, _ => none
theorem ctr94 : Ctr Try.prog 94 c94 := by
  refine ⟨k94, fun args rf res args' rf' h => ?_⟩
  unfold c94 at h
  split at h
  · split at h
    · rename_i hyp
      simp only [Option.some.injEq, Prod.mk.injEq] at h
      obtain ⟨rfl, rfl, rfl⟩ := h
      exact g94 _ _ _ _ _ hyp
    · simp at h
  · simp at h
theorem c94_eq {k : Int} {key : ByteArray} {f t : Int} {d : ByteArray} (hyp : key.size ≤ 1152921504606846976 ∧ d.size ≤ 1152921504606846976) : c94 [⟨.agg, [.int .i64 k, .str key, .int .i64 f, .int .i64 t, .str d]⟩] [] = some (⟨.one, [.str (opS ⟨k, key, f, t, d⟩)]⟩, [⟨.agg, [.int .i64 k, .str key, .int .i64 f, .int .i64 t, .str d]⟩], []) := if_pos hyp

theorem g113 (c i m : Int) (d : ByteArray) : Good Try.prog 113 [⟨.agg, [.int .i64 c, .int .i64 i, .int .i64 m, .str d]⟩] [] (⟨.one, [.bool (ansB c i m d)]⟩) [⟨.agg, [.int .i64 c, .int .i64 i, .int .i64 m, .str d]⟩] [] := by
  refine Good_of (E := envOf [(31, c31), (32, c32)]) (envOk_of ⟨ctr31, ⟨ctr32, trivial⟩⟩) Try.func113 m113 rfl ?_
  simp (maxSteps := 1000000) (disch := omega) only [go_sem, wI, wB, x113, r113_0, r113_1, Int.toNat_natCast, natS1, natS2, rowsI_at, rowsI_at0, rowsI_get, rowsI_snoc, Nat.mul_one, Nat.div_one, Nat.mod_one]
  repeat' (first | ((with_reducible apply scEnd_of); exact rfl; exact rfl) | ((with_reducible apply ScW_of); rfl; rfl; trivial; (intro h; try simp only [HS] at h)) | ((with_reducible apply Br_of) <;> (intro h; (try simp only [h]); (try simp only [HS] at h))) | ((with_reducible first | refine Opt_put_if ?_ ?_ | refine Opt_if ?_ ?_); (· (first | omega | (refine ⟨?_, ?_⟩ <;> omega) | (refine ⟨?_, ?_, ?_⟩ <;> omega) | (refine ⟨rfl, ?_⟩; simp only [okBig, Bool.and_eq_true, decide_eq_true_eq]; omega) | (refine Nat.le_trans (Nat.add_le_add_left (varS_le _) _) ?_; simp only [size_strOfNums, List.length_cons, List.length_nil, rowsI_length, ByteArray.size_append]; omega) | (refine ⟨rfl, ?_⟩; simp only [okBig, Bool.and_eq_true, decide_eq_true_eq, size_strOfNums, List.length_cons, List.length_nil, rowsI_length, ByteArray.size_append]; omega) | (simp only [size_strOfNums, List.length_cons, List.length_nil, rowsI_length, ByteArray.size_append]; omega)))) | ((with_reducible refine Opt_bind_ifn ?_ ?_); (· omega)) | ((with_reducible first | refine Opt_bind_if ?_ ?_ | refine Opt_ifb ?_ ?_); (· (first | omega | (refine ⟨?_, ?_⟩ <;> omega) | (refine ⟨?_, ?_, ?_⟩ <;> omega) | (refine ⟨rfl, ?_⟩; simp only [okBig, Bool.and_eq_true, decide_eq_true_eq]; omega) | (refine Nat.le_trans (Nat.add_le_add_left (varS_le _) _) ?_; simp only [size_strOfNums, List.length_cons, List.length_nil, rowsI_length, ByteArray.size_append]; omega) | (refine ⟨rfl, ?_⟩; simp only [okBig, Bool.and_eq_true, decide_eq_true_eq, size_strOfNums, List.length_cons, List.length_nil, rowsI_length, ByteArray.size_append]; omega) | (simp only [size_strOfNums, List.length_cons, List.length_nil, rowsI_length, ByteArray.size_append]; omega)))) | simp (maxSteps := 1000000) (disch := omega) only [go_sem, wI, wB, Int.toNat_natCast, natS1, natS2, rowsI_at, rowsI_at0, rowsI_get, rowsI_snoc, Nat.mul_one, Nat.div_one, Nat.mod_one])
  all_goals (simp only [ansB, Bool.and_assoc])
noncomputable def c113 : List SV → Refs → Option (SV × List SV × Refs)
  | [⟨.agg, [.int .i64 c, .int .i64 i, .int .i64 m, .str d]⟩], [] => some (⟨.one, [.bool (ansB c i m d)]⟩, [⟨.agg, [.int .i64 c, .int .i64 i, .int .i64 m, .str d]⟩], [])
  | _, _ => none
theorem ctr113 : Ctr Try.prog 113 c113 := by
  refine ⟨k113, fun args rf res args' rf' h => ?_⟩
  unfold c113 at h
  split at h
  · simp only [Option.some.injEq, Prod.mk.injEq] at h
    obtain ⟨rfl, rfl, rfl⟩ := h
    exact g113 _ _ _ _
  · simp at h
@[go_sem] theorem c113_eq {c i m : Int} {d : ByteArray} : c113 [⟨.agg, [.int .i64 c, .int .i64 i, .int .i64 m, .str d]⟩] [] = some (⟨.one, [.bool (ansB c i m d)]⟩, [⟨.agg, [.int .i64 c, .int .i64 i, .int .i64 m, .str d]⟩], []) := rfl

theorem g105 (c i m : Int) (d : ByteArray) : Good Try.prog 105 [⟨.agg, [.int .i64 c, .int .i64 i, .int .i64 m, .str d]⟩] [] (⟨.one, [.bool (ansB c i m d)]⟩) [⟨.agg, [.int .i64 c, .int .i64 i, .int .i64 m, .str d]⟩] [] := by
  refine Good_of (E := envOf [(36, c36)]) (envOk_of ⟨ctr36, trivial⟩) Try.func105 m105 rfl ?_
  simp (maxSteps := 1000000) (disch := omega) only [go_sem, wI, wB, x105, r105_0, r105_1, Int.toNat_natCast, natS1, natS2, rowsI_at, rowsI_at0, rowsI_get, rowsI_snoc, Nat.mul_one, Nat.div_one, Nat.mod_one]
  repeat' (first | ((with_reducible apply scEnd_of); exact rfl; exact rfl) | ((with_reducible apply ScW_of); rfl; rfl; trivial; (intro h; try simp only [HS] at h)) | ((with_reducible apply Br_of) <;> (intro h; (try simp only [h]); (try simp only [HS] at h))) | ((with_reducible first | refine Opt_put_if ?_ ?_ | refine Opt_if ?_ ?_); (· (first | omega | (refine ⟨?_, ?_⟩ <;> omega) | (refine ⟨?_, ?_, ?_⟩ <;> omega) | (refine ⟨rfl, ?_⟩; simp only [okBig, Bool.and_eq_true, decide_eq_true_eq]; omega) | (refine Nat.le_trans (Nat.add_le_add_left (varS_le _) _) ?_; simp only [size_strOfNums, List.length_cons, List.length_nil, rowsI_length, ByteArray.size_append]; omega) | (refine ⟨rfl, ?_⟩; simp only [okBig, Bool.and_eq_true, decide_eq_true_eq, size_strOfNums, List.length_cons, List.length_nil, rowsI_length, ByteArray.size_append]; omega) | (simp only [size_strOfNums, List.length_cons, List.length_nil, rowsI_length, ByteArray.size_append]; omega)))) | ((with_reducible refine Opt_bind_ifn ?_ ?_); (· omega)) | ((with_reducible first | refine Opt_bind_if ?_ ?_ | refine Opt_ifb ?_ ?_); (· (first | omega | (refine ⟨?_, ?_⟩ <;> omega) | (refine ⟨?_, ?_, ?_⟩ <;> omega) | (refine ⟨rfl, ?_⟩; simp only [okBig, Bool.and_eq_true, decide_eq_true_eq]; omega) | (refine Nat.le_trans (Nat.add_le_add_left (varS_le _) _) ?_; simp only [size_strOfNums, List.length_cons, List.length_nil, rowsI_length, ByteArray.size_append]; omega) | (refine ⟨rfl, ?_⟩; simp only [okBig, Bool.and_eq_true, decide_eq_true_eq, size_strOfNums, List.length_cons, List.length_nil, rowsI_length, ByteArray.size_append]; omega) | (simp only [size_strOfNums, List.length_cons, List.length_nil, rowsI_length, ByteArray.size_append]; omega)))) | simp (maxSteps := 1000000) (disch := omega) only [go_sem, wI, wB, Int.toNat_natCast, natS1, natS2, rowsI_at, rowsI_at0, rowsI_get, rowsI_snoc, Nat.mul_one, Nat.div_one, Nat.mod_one])
  all_goals (simp only [ansB, Bool.and_assoc])
noncomputable def c105 : List SV → Refs → Option (SV × List SV × Refs)
  | [⟨.agg, [.int .i64 c, .int .i64 i, .int .i64 m, .str d]⟩], [] => some (⟨.one, [.bool (ansB c i m d)]⟩, [⟨.agg, [.int .i64 c, .int .i64 i, .int .i64 m, .str d]⟩], [])
  | _, _ => none
theorem ctr105 : Ctr Try.prog 105 c105 := by
  refine ⟨k105, fun args rf res args' rf' h => ?_⟩
  unfold c105 at h
  split at h
  · simp only [Option.some.injEq, Prod.mk.injEq] at h
    obtain ⟨rfl, rfl, rfl⟩ := h
    exact g105 _ _ _ _
  · simp at h
@[go_sem] theorem c105_eq {c i m : Int} {d : ByteArray} : c105 [⟨.agg, [.int .i64 c, .int .i64 i, .int .i64 m, .str d]⟩] [] = some (⟨.one, [.bool (ansB c i m d)]⟩, [⟨.agg, [.int .i64 c, .int .i64 i, .int .i64 m, .str d]⟩], []) := rfl

theorem g101 (c i m : Int) (d : ByteArray) (hyp : d.size ≤ 1152921504606846976) : Good Try.prog 101 [⟨.agg, [.int .i64 c, .int .i64 i, .int .i64 m, .str d]⟩] [] (⟨.one, [.str (ansS ⟨c, i, m, d⟩)]⟩) [⟨.agg, [.int .i64 c, .int .i64 i, .int .i64 m, .str d]⟩] [] := by
  refine Good_of (E := envOf [(57, c57), (113, c113)]) (envOk_of ⟨ctr57, ⟨ctr113, trivial⟩⟩) Try.func101 m101 rfl ?_
  have z1 := varS_le c
  have z2 := varS_le i
  have z3 := varS_le m
  simp (maxSteps := 1000000) (disch := omega) only [go_sem, wI, wB, x101, r101_0, r101_1, r101_2, r101_3v, r101_3t, Int.toNat_natCast, natS1, natS2, rowsI_at, rowsI_at0, rowsI_get, rowsI_snoc, Nat.mul_one, Nat.div_one, Nat.mod_one]
  repeat' (first | ((with_reducible apply scEnd_of); exact rfl; exact rfl) | ((with_reducible apply ScW_of); rfl; rfl; trivial; (intro h; try simp only [HS] at h)) | ((with_reducible apply Br_of) <;> (intro h; (try simp only [h]); (try simp only [HS] at h))) | ((with_reducible first | refine Opt_put_if ?_ ?_ | refine Opt_if ?_ ?_); (· (first | omega | (refine ⟨?_, ?_⟩ <;> omega) | (refine ⟨?_, ?_, ?_⟩ <;> omega) | (refine ⟨rfl, ?_⟩; simp only [okBig, Bool.and_eq_true, decide_eq_true_eq]; omega) | (refine Nat.le_trans (Nat.add_le_add_left (varS_le _) _) ?_; simp only [size_strOfNums, List.length_cons, List.length_nil, rowsI_length, ByteArray.size_append]; omega) | (refine ⟨rfl, ?_⟩; simp only [okBig, Bool.and_eq_true, decide_eq_true_eq, size_strOfNums, List.length_cons, List.length_nil, rowsI_length, ByteArray.size_append]; omega) | (simp only [size_strOfNums, List.length_cons, List.length_nil, rowsI_length, ByteArray.size_append]; omega)))) | ((with_reducible refine Opt_bind_ifn ?_ ?_); (· omega)) | ((with_reducible first | refine Opt_bind_if ?_ ?_ | refine Opt_ifb ?_ ?_); (· (first | omega | (refine ⟨?_, ?_⟩ <;> omega) | (refine ⟨?_, ?_, ?_⟩ <;> omega) | (refine ⟨rfl, ?_⟩; simp only [okBig, Bool.and_eq_true, decide_eq_true_eq]; omega) | (refine Nat.le_trans (Nat.add_le_add_left (varS_le _) _) ?_; simp only [size_strOfNums, List.length_cons, List.length_nil, rowsI_length, ByteArray.size_append]; omega) | (refine ⟨rfl, ?_⟩; simp only [okBig, Bool.and_eq_true, decide_eq_true_eq, size_strOfNums, List.length_cons, List.length_nil, rowsI_length, ByteArray.size_append]; omega) | (simp only [size_strOfNums, List.length_cons, List.length_nil, rowsI_length, ByteArray.size_append]; omega)))) | simp (maxSteps := 1000000) (disch := omega) only [go_sem, wI, wB, Int.toNat_natCast, natS1, natS2, rowsI_at, rowsI_at0, rowsI_get, rowsI_snoc, Nat.mul_one, Nat.div_one, Nat.mod_one])
  · rw [ansS, if_neg (by rw [AnsV.okB, h]; simp)]
  · rw [ansS, if_pos (show AnsV.okB ⟨c, i, m, d⟩ = true from h)]; rfl
noncomputable def c101 : List SV → Refs → Option (SV × List SV × Refs)
  | [⟨.agg, [.int .i64 c, .int .i64 i, .int .i64 m, .str d]⟩], [] => (open Classical in if d.size ≤ 1152921504606846976 then some (⟨.one, [.str (ansS ⟨c, i, m, d⟩)]⟩, [⟨.agg, [.int .i64 c, .int .i64 i, .int .i64 m, .str d]⟩], []) else none)
  | _, _ => none
theorem ctr101 : Ctr Try.prog 101 c101 := by
  refine ⟨k101, fun args rf res args' rf' h => ?_⟩
  unfold c101 at h
  split at h
  · split at h
    · rename_i hyp
      simp only [Option.some.injEq, Prod.mk.injEq] at h
      obtain ⟨rfl, rfl, rfl⟩ := h
      exact g101 _ _ _ _ hyp
    · simp at h
  · simp at h
theorem c101_eq {c i m : Int} {d : ByteArray} (hyp : d.size ≤ 1152921504606846976) : c101 [⟨.agg, [.int .i64 c, .int .i64 i, .int .i64 m, .str d]⟩] [] = some (⟨.one, [.str (ansS ⟨c, i, m, d⟩)]⟩, [⟨.agg, [.int .i64 c, .int .i64 i, .int .i64 m, .str d]⟩], []) := if_pos hyp

theorem g95 (c i m : Int) (d : ByteArray) (hyp : d.size ≤ 1152921504606846976) : Good Try.prog 95 [⟨.agg, [.int .i64 c, .int .i64 i, .int .i64 m, .str d]⟩] [] (⟨.one, [.str (ansS ⟨c, i, m, d⟩)]⟩) [⟨.agg, [.int .i64 c, .int .i64 i, .int .i64 m, .str d]⟩] [] := by
  refine Good_of (E := envOf [(105, c105), (53, c53)]) (envOk_of ⟨ctr105, ⟨ctr53, trivial⟩⟩) Try.func95 m95 rfl ?_
  have z1 := varS_le c
  have z2 := varS_le i
  have z3 := varS_le m
  simp (maxSteps := 1000000) (disch := omega) only [go_sem, wI, wB, x95, r95_0, r95_1, r95_2, r95_3v, r95_3t, Int.toNat_natCast, natS1, natS2, rowsI_at, rowsI_at0, rowsI_get, rowsI_snoc, Nat.mul_one, Nat.div_one, Nat.mod_one]
  repeat' (first | ((with_reducible apply scEnd_of); exact rfl; exact rfl) | ((with_reducible apply ScW_of); rfl; rfl; trivial; (intro h; try simp only [HS] at h)) | ((with_reducible apply Br_of) <;> (intro h; (try simp only [h]); (try simp only [HS] at h))) | ((with_reducible first | refine Opt_put_if ?_ ?_ | refine Opt_if ?_ ?_); (· (first | omega | (refine ⟨?_, ?_⟩ <;> omega) | (refine ⟨?_, ?_, ?_⟩ <;> omega) | (refine ⟨rfl, ?_⟩; simp only [okBig, Bool.and_eq_true, decide_eq_true_eq]; omega) | (refine Nat.le_trans (Nat.add_le_add_left (varS_le _) _) ?_; simp only [size_strOfNums, List.length_cons, List.length_nil, rowsI_length, ByteArray.size_append]; omega) | (refine ⟨rfl, ?_⟩; simp only [okBig, Bool.and_eq_true, decide_eq_true_eq, size_strOfNums, List.length_cons, List.length_nil, rowsI_length, ByteArray.size_append]; omega) | (simp only [size_strOfNums, List.length_cons, List.length_nil, rowsI_length, ByteArray.size_append]; omega)))) | ((with_reducible refine Opt_bind_ifn ?_ ?_); (· omega)) | ((with_reducible first | refine Opt_bind_if ?_ ?_ | refine Opt_ifb ?_ ?_); (· (first | omega | (refine ⟨?_, ?_⟩ <;> omega) | (refine ⟨?_, ?_, ?_⟩ <;> omega) | (refine ⟨rfl, ?_⟩; simp only [okBig, Bool.and_eq_true, decide_eq_true_eq]; omega) | (refine Nat.le_trans (Nat.add_le_add_left (varS_le _) _) ?_; simp only [size_strOfNums, List.length_cons, List.length_nil, rowsI_length, ByteArray.size_append]; omega) | (refine ⟨rfl, ?_⟩; simp only [okBig, Bool.and_eq_true, decide_eq_true_eq, size_strOfNums, List.length_cons, List.length_nil, rowsI_length, ByteArray.size_append]; omega) | (simp only [size_strOfNums, List.length_cons, List.length_nil, rowsI_length, ByteArray.size_append]; omega)))) | simp (maxSteps := 1000000) (disch := omega) only [go_sem, wI, wB, Int.toNat_natCast, natS1, natS2, rowsI_at, rowsI_at0, rowsI_get, rowsI_snoc, Nat.mul_one, Nat.div_one, Nat.mod_one])
  · rw [ansS, if_neg (by rw [AnsV.okB, h]; simp)]
  · rw [ansS, if_pos (show AnsV.okB ⟨c, i, m, d⟩ = true from h)]; rfl
noncomputable def c95 : List SV → Refs → Option (SV × List SV × Refs)
  | [⟨.agg, [.int .i64 c, .int .i64 i, .int .i64 m, .str d]⟩], [] => (open Classical in if d.size ≤ 1152921504606846976 then some (⟨.one, [.str (ansS ⟨c, i, m, d⟩)]⟩, [⟨.agg, [.int .i64 c, .int .i64 i, .int .i64 m, .str d]⟩], []) else none)
  | _, _ => none
theorem ctr95 : Ctr Try.prog 95 c95 := by
  refine ⟨k95, fun args rf res args' rf' h => ?_⟩
  unfold c95 at h
  split at h
  · split at h
    · rename_i hyp
      simp only [Option.some.injEq, Prod.mk.injEq] at h
      obtain ⟨rfl, rfl, rfl⟩ := h
      exact g95 _ _ _ _ hyp
    · simp at h
  · simp at h
theorem c95_eq {c i m : Int} {d : ByteArray} (hyp : d.size ≤ 1152921504606846976) : c95 [⟨.agg, [.int .i64 c, .int .i64 i, .int .i64 m, .str d]⟩] [] = some (⟨.one, [.str (ansS ⟨c, i, m, d⟩)]⟩, [⟨.agg, [.int .i64 c, .int .i64 i, .int .i64 m, .str d]⟩], []) := if_pos hyp

theorem g79 (s : ByteArray) (a n : Int) (hyp : (s.size ≤ 1152921504606846976 ∧ 1 ≤ n ∧ n ≤ 1000) ∧ 0 ≤ a ∧ a ≤ 1152921504606846976) : Good Try.prog 79 [⟨.one, [.str s]⟩, ⟨.one, [.int .i64 a]⟩, ⟨.one, [.int .i64 n]⟩] [] (⟨.tup [(false, 1), (false, 1)], [.own 1 (rowsI (varsV n.toNat ((bytes s).drop a.toNat))), .int .i64 (finV s.size (varsO n.toNat ((bytes s).drop a.toNat)))]⟩) [⟨.one, [.str s]⟩, ⟨.one, [.int .i64 a]⟩, ⟨.one, [.int .i64 n]⟩] [] := by
  refine Good_of (E := envOf [(116, c116)]) (envOk_of ⟨ctr116, trivial⟩) Try.func79 m79 rfl ?_
  simp (maxSteps := 1000000) (disch := omega) only [go_sem, wI, wB, x79, r79_0, r79_1, r79_2, r79_3, r79_5, r79_6, r79_7, r79_8, r79_9, r79_10, r79_11, r79_4, r79_12, Int.toNat_natCast, natS1, natS2, rowsI_at, rowsI_at0, rowsI_get, rowsI_snoc, Nat.mul_one, Nat.div_one, Nat.mod_one]
  refine LoopK_of (α := Nat × Nat × List Int) (fun p => ⟨[(9, i64 p.1), (8, ⟨.one, [.own 1 (rowsI p.2.2)]⟩), (2, i64 n), (1, i64 p.2.1), (0, st1 s)], [], [(0, st1 s), (1, i64 a), (2, i64 n)]⟩) (fun p => p.1 ≤ n.toNat ∧ (0 < p.1 → p.2.1 ≤ s.size) ∧ (p.1 = 0 → p.2.1 = a.toNat) ∧ p.2.2.length = p.1 ∧ p.2.2 ++ varsV (n.toNat - p.1) ((bytes s).drop p.2.1) = varsV n.toNat ((bytes s).drop a.toNat) ∧ finV s.size (varsO (n.toNat - p.1) ((bytes s).drop p.2.1)) = finV s.size (varsO n.toNat ((bytes s).drop a.toNat))) (fun p => n.toNat - p.1) (0, a.toNat, []) ?h0 ⟨by simp, by simp, by simp, rfl, by simp, by simp⟩ ?_
  case h0 => rw [show ((a.toNat : Nat) : Int) = a by omega]; rfl
  rintro ⟨i, b, o⟩ ⟨h1, h2, h7, h3, h4, h5⟩
  simp only at h1 h2 h3 h4 h5 h7
  rcases hq : rvO ((bytes s).drop b) with _ | ⟨x, k⟩
  · have hrv : rv (s.extract b s.size) = (0, 0) := by unfold rv; rw [bytes_tail, hq]
    simp (maxSteps := 1000000) (disch := omega) only [go_sem, wI, wB, x79, r79_0, r79_1, r79_2, r79_3, r79_5, r79_6, r79_7, r79_8, r79_9, r79_10, r79_11, r79_4, r79_12, Int.toNat_natCast, natS1, natS2, rowsI_at, rowsI_at0, rowsI_get, rowsI_snoc, Nat.mul_one, Nat.div_one, Nat.mod_one]
    repeat' (first | ((with_reducible apply scEnd_of); exact rfl; exact rfl) | ((with_reducible apply ScW_of); rfl; rfl; trivial; (intro h; try simp only [HS] at h)) | ((with_reducible apply Br_of) <;> (intro h; (try simp only [h]); (try simp only [HS] at h))) | ((with_reducible first | refine Opt_put_if ?_ ?_ | refine Opt_if ?_ ?_); (· (first | omega | (refine ⟨?_, ?_⟩ <;> omega) | (refine ⟨?_, ?_, ?_⟩ <;> omega) | (refine ⟨rfl, ?_⟩; simp only [okBig, Bool.and_eq_true, decide_eq_true_eq]; omega)))) | ((with_reducible refine Opt_bind_ifn ?_ ?_); (· omega)) | ((with_reducible first | refine Opt_bind_if ?_ ?_ | refine Opt_ifb ?_ ?_); (· (first | omega | (refine ⟨?_, ?_⟩ <;> omega) | (refine ⟨?_, ?_, ?_⟩ <;> omega) | (refine ⟨rfl, ?_⟩; simp only [okBig, Bool.and_eq_true, decide_eq_true_eq]; omega)))) | simp (maxSteps := 1000000) (disch := omega) only [go_sem, wI, wB, Int.toNat_natCast, natS1, natS2, rowsI_at, rowsI_at0, rowsI_get, rowsI_snoc, Nat.mul_one, Nat.div_one, Nat.mod_one, hrv])
    all_goals (try (exfalso; omega))
    · rw [show n.toNat - i = (n.toNat - i - 1) + 1 by omega, (varsV_none hq).1, List.append_nil] at h4
      rw [show n.toNat - i = (n.toNat - i - 1) + 1 by omega, (varsV_none hq).2] at h5
      rw [← h4, ← h5]; rfl
    · rw [show n.toNat - i = (n.toNat - i - 1) + 1 by omega, (varsV_none hq).1, List.append_nil] at h4
      rw [show n.toNat - i = (n.toNat - i - 1) + 1 by omega, (varsV_none hq).2] at h5
      rw [← h4, ← h5]; rfl
    · rw [show n.toNat - i = 0 by omega] at h4 h5
      have h6 : finV s.size (varsO 0 ((bytes s).drop b)) = (b : Int) := by simp only [varsO, finV, List.length_drop, bytes_length]; omega
      rw [h6] at h5
      simp only [varsV, List.append_nil] at h4
      rw [← h4, ← h5]
  · have hrv : rv (s.extract b s.size) = ((x : Int), (k : Int)) := by unfold rv; rw [bytes_tail, hq]
    obtain ⟨k1, k2, k3, k4⟩ := rvO_some (isB_drop (isB_bytes s) b) hq
    rw [List.length_drop, bytes_length] at k2
    simp (maxSteps := 1000000) (disch := omega) only [go_sem, wI, wB, x79, r79_0, r79_1, r79_2, r79_3, r79_5, r79_6, r79_7, r79_8, r79_9, r79_10, r79_11, r79_4, r79_12, Int.toNat_natCast, natS1, natS2, rowsI_at, rowsI_at0, rowsI_get, rowsI_snoc, Nat.mul_one, Nat.div_one, Nat.mod_one]
    repeat' (first | ((with_reducible apply scEnd_of); exact rfl; exact rfl) | ((with_reducible apply ScW_of); rfl; rfl; trivial; (intro h; try simp only [HS] at h)) | ((with_reducible apply Br_of) <;> (intro h; (try simp only [h]); (try simp only [HS] at h))) | ((with_reducible first | refine Opt_put_if ?_ ?_ | refine Opt_if ?_ ?_); (· (first | omega | (refine ⟨?_, ?_⟩ <;> omega) | (refine ⟨?_, ?_, ?_⟩ <;> omega) | (refine ⟨rfl, ?_⟩; simp only [okBig, Bool.and_eq_true, decide_eq_true_eq]; omega) | (refine Nat.le_trans (Nat.add_le_add_left (varS_le _) _) ?_; simp only [size_strOfNums, List.length_cons, List.length_nil, rowsI_length, ByteArray.size_append]; omega) | (refine ⟨rfl, ?_⟩; simp only [okBig, Bool.and_eq_true, decide_eq_true_eq, size_strOfNums, List.length_cons, List.length_nil, rowsI_length, ByteArray.size_append]; omega) | (simp only [size_strOfNums, List.length_cons, List.length_nil, rowsI_length, ByteArray.size_append]; omega)))) | ((with_reducible refine Opt_bind_ifn ?_ ?_); (· omega)) | ((with_reducible first | refine Opt_bind_if ?_ ?_ | refine Opt_ifb ?_ ?_); (· (first | omega | (refine ⟨?_, ?_⟩ <;> omega) | (refine ⟨?_, ?_, ?_⟩ <;> omega) | (refine ⟨rfl, ?_⟩; simp only [okBig, Bool.and_eq_true, decide_eq_true_eq]; omega) | (refine Nat.le_trans (Nat.add_le_add_left (varS_le _) _) ?_; simp only [size_strOfNums, List.length_cons, List.length_nil, rowsI_length, ByteArray.size_append]; omega) | (refine ⟨rfl, ?_⟩; simp only [okBig, Bool.and_eq_true, decide_eq_true_eq, size_strOfNums, List.length_cons, List.length_nil, rowsI_length, ByteArray.size_append]; omega) | (simp only [size_strOfNums, List.length_cons, List.length_nil, rowsI_length, ByteArray.size_append]; omega)))) | simp (maxSteps := 1000000) (disch := omega) only [go_sem, wI, wB, Int.toNat_natCast, natS1, natS2, rowsI_at, rowsI_at0, rowsI_get, rowsI_snoc, Nat.mul_one, Nat.div_one, Nat.mod_one, hrv])
    all_goals (try (exfalso; omega))
    · rw [show n.toNat - i = (n.toNat - (i + 1)) + 1 by omega, varsV_step hq, List.drop_drop] at h4
      rw [show n.toNat - i = (n.toNat - (i + 1)) + 1 by omega, finV_step hq, List.drop_drop] at h5
      refine LoopQ_of (i + 1, b + k, o ++ [(x : Int)]) rfl ⟨by simp only; omega, by simp only; omega, by simp only; omega, by simp [h3], ?_, h5⟩ (by simp only; omega)
      rw [← h4]; simp
    · rw [show n.toNat - i = 0 by omega] at h4 h5
      have h6 : finV s.size (varsO 0 ((bytes s).drop b)) = (b : Int) := by simp only [varsO, finV, List.length_drop, bytes_length]; omega
      rw [h6] at h5
      simp only [varsV, List.append_nil] at h4
      rw [← h4, ← h5]
noncomputable def c79 : List SV → Refs → Option (SV × List SV × Refs)
  | [⟨.one, [.str s]⟩, ⟨.one, [.int .i64 a]⟩, ⟨.one, [.int .i64 n]⟩], [] => (open Classical in if (s.size ≤ 1152921504606846976 ∧ 1 ≤ n ∧ n ≤ 1000) ∧ 0 ≤ a ∧ a ≤ 1152921504606846976 then some (⟨.tup [(false, 1), (false, 1)], [.own 1 (rowsI (varsV n.toNat ((bytes s).drop a.toNat))), .int .i64 (finV s.size (varsO n.toNat ((bytes s).drop a.toNat)))]⟩, [⟨.one, [.str s]⟩, ⟨.one, [.int .i64 a]⟩, ⟨.one, [.int .i64 n]⟩], []) else none)
  | _, _ => none
theorem ctr79 : Ctr Try.prog 79 c79 := by
  refine ⟨k79, fun args rf res args' rf' h => ?_⟩
  unfold c79 at h
  split at h
  · split at h
    · rename_i hyp
      simp only [Option.some.injEq, Prod.mk.injEq] at h
      obtain ⟨rfl, rfl, rfl⟩ := h
      exact g79 _ _ _ hyp
    · simp at h
  · simp at h
theorem c79_eq {s : ByteArray} {a n : Int} (hyp : (s.size ≤ 1152921504606846976 ∧ 1 ≤ n ∧ n ≤ 1000) ∧ 0 ≤ a ∧ a ≤ 1152921504606846976) : c79 [⟨.one, [.str s]⟩, ⟨.one, [.int .i64 a]⟩, ⟨.one, [.int .i64 n]⟩] [] = some (⟨.tup [(false, 1), (false, 1)], [.own 1 (rowsI (varsV n.toNat ((bytes s).drop a.toNat))), .int .i64 (finV s.size (varsO n.toNat ((bytes s).drop a.toNat)))]⟩, [⟨.one, [.str s]⟩, ⟨.one, [.int .i64 a]⟩, ⟨.one, [.int .i64 n]⟩], []) := if_pos hyp

end Go.Eng

namespace Go.Eng
open Go Go.Proofs

/-- Entries as a list's rows. -/
abbrev EV := Int × ByteArray
def eZ : EV := (0, ⟨#[]⟩)
def rowsE (l : List EV) : List (List D) := l.map fun p => [.int .i64 p.1, .str p.2]
@[go_sem] theorem rowsE_length (l : List EV) : (rowsE l).length = l.length := by simp [rowsE]
@[simp] theorem rowsE_inj {a b : List EV} : rowsE a = rowsE b ↔ a = b := ⟨fun h => map_inj (by rintro ⟨a, b⟩ ⟨c, d⟩ h; simpa using h) h, fun h => by rw [h]⟩
theorem rowsE_snoc (l : List EV) (a : Int) (b : ByteArray) : rowsE l ++ [[.int .i64 a, .str b]] = rowsE (l ++ [(a, b)]) := by simp [rowsE]
theorem rowsE_at {l : List EV} {i : Nat} (h : i < l.length) : ((rowsE l).drop i).flatten = .int .i64 (l.getD i eZ).1 :: .str (l.getD i eZ).2 :: rowsT (rowsE l) i := by
  have h' : i < (rowsE l).length := by rw [rowsE_length]; exact h
  rw [List.drop_eq_getElem_cons h', List.flatten_cons]
  simp [rowsE, rowsT, List.getD, h]
theorem rowsE_get {l : List EV} {i : Nat} (h : i < l.length) : (rowsE l)[i]? = some [.int .i64 (l.getD i eZ).1, .str (l.getD i eZ).2] := by
  simp [rowsE, List.getD, h]
theorem drop_getD {α : Type} {l : List α} {i : Nat} (z : α) (h : i < l.length) : l.drop i = l.getD i z :: l.drop (i + 1) := by
  rw [List.drop_eq_getElem_cons h]; simp [List.getD, h]
theorem getD_mem {α : Type} {l : List α} {i : Nat} (z : α) (h : i < l.length) : l.getD i z ∈ l := by
  simp only [List.getD, List.getElem?_eq_getElem h, Option.getD_some]; exact List.getElem_mem h
def szB (b : ByteArray) (n : Int) : Int := if n - b.size < 0 then -1 else n - b.size
def szEL : List EV → Int → Int
  | [], n => n
  | e :: t, n => if n - e.2.size < 0 then -1 else szEL t (n - e.2.size)
def szES (l : List EV) (n : Int) : Int := if n - l.length < 0 then -1 else szEL l (n - l.length)
theorem szEL_rng : ∀ (l : List EV) (n : Int), 0 ≤ n → szEL l n ≤ n ∧ (0 ≤ szEL l n → ∀ e ∈ l, (e.2.size : Int) ≤ n)
  | [], n, h => by simp [szEL]
  | e :: t, n, h => by
    simp only [szEL]
    split
    · exact ⟨by omega, fun hh => by omega⟩
    · have ih := szEL_rng t (n - e.2.size) (by omega)
      refine ⟨by omega, fun hh x hx => ?_⟩
      rcases List.mem_cons.1 hx with rfl | hx
      · omega
      · have := ih.2 hh x hx; omega
theorem szES_rng {l : List EV} {n : Int} (h : 0 ≤ n) : szES l n ≤ n ∧ (0 ≤ szES l n → (l.length : Int) ≤ n ∧ ∀ e ∈ l, (e.2.size : Int) ≤ n) := by
  unfold szES
  split
  · exact ⟨by omega, fun hh => by omega⟩
  · have ih := szEL_rng l (n - l.length) (by omega)
    refine ⟨by omega, fun hh => ⟨by omega, fun e he => ?_⟩⟩
    have := ih.2 hh e he
    omega
def runB (low high : Int) : List EV → Bool
  | [] => true
  | e :: t => decide (1 ≤ e.1) && (decide (low ≤ e.1) && decide (e.1 ≤ high)) && decide ((e.2.size : Int) ≤ 900) && runB e.1 high t
theorem runB_low (low high : Int) : ∀ l, runB low high l = runB (if low < 1 then 1 else low) high l
  | [] => rfl
  | e :: t => by
    simp only [runB]
    congr 2
    rw [Bool.eq_iff_iff]
    simp only [Bool.and_eq_true, decide_eq_true_eq]
    split <;> omega
def eqE (l m : List EV) : Bool := decide (l = m)

theorem g93 (a : Int) (b : ByteArray) (n : Int) (hyp : (0 ≤ n ∧ n ≤ 1048576) ∧ b.size ≤ 9223372036854775807) : Good Try.prog 93 [⟨.agg, [.int .i64 a, .str b]⟩, ⟨.one, [.int .i64 n]⟩] [] (⟨.one, [.int .i64 (szB b n)]⟩) [⟨.agg, [.int .i64 a, .str b]⟩, ⟨.one, [.int .i64 n]⟩] [] := by
  refine Good_of (E := envOf []) (envOk_of trivial) Try.func93 m93 rfl ?_
  simp (maxSteps := 1000000) (disch := omega) only [go_sem, wI, wB, x93, r93_0, r93_1, r93_2, r93_3, r93_4, Int.toNat_natCast, natS1, natS2, rowsE_at, rowsE_get, rowsE_snoc, Nat.mul_one, Nat.div_one, Nat.mod_one]
  repeat' (first | ((with_reducible apply scEnd_of); exact rfl; exact rfl) | ((with_reducible apply ScW_of); rfl; rfl; trivial; (intro h; try simp only [HS] at h)) | ((with_reducible apply Br_of) <;> (intro h; (try simp only [h]); (try simp only [HS] at h))) | ((with_reducible first | refine Opt_put_if ?_ ?_ | refine Opt_if ?_ ?_); (· (first | omega | (refine ⟨?_, ?_⟩ <;> omega) | (refine ⟨?_, ?_, ?_⟩ <;> omega) | (refine ⟨rfl, ?_⟩; simp only [okBig, Bool.and_eq_true, decide_eq_true_eq]; omega) | (refine Nat.le_trans (Nat.add_le_add_left (varS_le _) _) ?_; simp only [size_strOfNums, List.length_cons, List.length_nil, rowsE_length, ByteArray.size_append]; omega) | (refine ⟨rfl, ?_⟩; simp only [okBig, Bool.and_eq_true, decide_eq_true_eq, size_strOfNums, List.length_cons, List.length_nil, rowsE_length, ByteArray.size_append]; omega) | (simp only [size_strOfNums, List.length_cons, List.length_nil, rowsE_length, ByteArray.size_append]; omega)))) | ((with_reducible refine Opt_bind_ifn ?_ ?_); (· omega)) | ((with_reducible first | refine Opt_bind_if ?_ ?_ | refine Opt_ifb ?_ ?_); (· (first | omega | (refine ⟨?_, ?_⟩ <;> omega) | (refine ⟨?_, ?_, ?_⟩ <;> omega) | (refine ⟨rfl, ?_⟩; simp only [okBig, Bool.and_eq_true, decide_eq_true_eq]; omega) | (refine Nat.le_trans (Nat.add_le_add_left (varS_le _) _) ?_; simp only [size_strOfNums, List.length_cons, List.length_nil, rowsE_length, ByteArray.size_append]; omega) | (refine ⟨rfl, ?_⟩; simp only [okBig, Bool.and_eq_true, decide_eq_true_eq, size_strOfNums, List.length_cons, List.length_nil, rowsE_length, ByteArray.size_append]; omega) | (simp only [size_strOfNums, List.length_cons, List.length_nil, rowsE_length, ByteArray.size_append]; omega)))) | simp (maxSteps := 1000000) (disch := omega) only [go_sem, wI, wB, Int.toNat_natCast, natS1, natS2, rowsE_at, rowsE_get, rowsE_snoc, Nat.mul_one, Nat.div_one, Nat.mod_one])
  · rw [szB, if_pos h]
  · rw [szB, if_neg (by omega)]
noncomputable def c93 : List SV → Refs → Option (SV × List SV × Refs)
  | [⟨.agg, [.int .i64 a, .str b]⟩, ⟨.one, [.int .i64 n]⟩], [] => (open Classical in if (0 ≤ n ∧ n ≤ 1048576) ∧ b.size ≤ 9223372036854775807 then some (⟨.one, [.int .i64 (szB b n)]⟩, [⟨.agg, [.int .i64 a, .str b]⟩, ⟨.one, [.int .i64 n]⟩], []) else none)
  | _, _ => none
theorem ctr93 : Ctr Try.prog 93 c93 := by
  refine ⟨k93, fun args rf res args' rf' h => ?_⟩
  unfold c93 at h
  split at h
  · split at h
    · rename_i hyp
      simp only [Option.some.injEq, Prod.mk.injEq] at h
      obtain ⟨rfl, rfl, rfl⟩ := h
      exact g93 _ _ _ hyp
    · simp at h
  · simp at h
theorem c93_eq {a : Int} {b : ByteArray} {n : Int} (hyp : (0 ≤ n ∧ n ≤ 1048576) ∧ b.size ≤ 9223372036854775807) : c93 [⟨.agg, [.int .i64 a, .str b]⟩, ⟨.one, [.int .i64 n]⟩] [] = some (⟨.one, [.int .i64 (szB b n)]⟩, [⟨.agg, [.int .i64 a, .str b]⟩, ⟨.one, [.int .i64 n]⟩], []) := if_pos hyp

theorem g33 (l : List EV) (n : Int) (hyp : (0 ≤ n ∧ n ≤ 1048576) ∧ l.length ≤ 9223372036854775807 ∧ (∀ e ∈ l, e.2.size ≤ 9223372036854775807)) : Good Try.prog 33 [⟨.one, [.ro 2 (rowsE l)]⟩, ⟨.one, [.int .i64 n]⟩] [] (⟨.one, [.int .i64 (szES l n)]⟩) [⟨.one, [.ro 2 (rowsE l)]⟩, ⟨.one, [.int .i64 n]⟩] [] := by
  refine Good_of (E := envOf [(93, c93)]) (envOk_of ⟨ctr93, trivial⟩) Try.func33 m33 rfl ?_
  simp (maxSteps := 1000000) (disch := omega) only [go_sem, wI, wB, x33, r33_0, r33_1, r33_2, r33_3, r33_4, r33_5, r33_7, r33_8, r33_9, r33_6, r33_10, Int.toNat_natCast, natS1, natS2, rowsE_at, rowsE_get, rowsE_snoc, Nat.mul_one, Nat.div_one, Nat.mod_one, c93_eq]
  repeat' (first | ((with_reducible apply scEnd_of); exact rfl; exact rfl) | ((with_reducible apply ScW_of); rfl; rfl; trivial; (intro h; try simp only [HS] at h)) | ((with_reducible apply Br_of) <;> (intro h; (try simp only [h]); (try simp only [HS] at h))) | ((with_reducible first | refine Opt_put_if ?_ ?_ | refine Opt_if ?_ ?_); (· (first | omega | (refine ⟨?_, ?_⟩ <;> omega) | (refine ⟨?_, ?_, ?_⟩ <;> omega) | (refine ⟨rfl, ?_⟩; simp only [okBig, Bool.and_eq_true, decide_eq_true_eq]; omega) | (refine Nat.le_trans (Nat.add_le_add_left (varS_le _) _) ?_; simp only [size_strOfNums, List.length_cons, List.length_nil, rowsE_length, ByteArray.size_append]; omega) | (refine ⟨rfl, ?_⟩; simp only [okBig, Bool.and_eq_true, decide_eq_true_eq, size_strOfNums, List.length_cons, List.length_nil, rowsE_length, ByteArray.size_append]; omega) | (simp only [size_strOfNums, List.length_cons, List.length_nil, rowsE_length, ByteArray.size_append]; omega)))) | ((with_reducible refine Opt_bind_ifn ?_ ?_); (· omega)) | ((with_reducible first | refine Opt_bind_if ?_ ?_ | refine Opt_ifb ?_ ?_); (· (first | omega | (refine ⟨?_, ?_⟩ <;> omega) | (refine ⟨?_, ?_, ?_⟩ <;> omega) | (refine ⟨rfl, ?_⟩; simp only [okBig, Bool.and_eq_true, decide_eq_true_eq]; omega) | (refine Nat.le_trans (Nat.add_le_add_left (varS_le _) _) ?_; simp only [size_strOfNums, List.length_cons, List.length_nil, rowsE_length, ByteArray.size_append]; omega) | (refine ⟨rfl, ?_⟩; simp only [okBig, Bool.and_eq_true, decide_eq_true_eq, size_strOfNums, List.length_cons, List.length_nil, rowsE_length, ByteArray.size_append]; omega) | (simp only [size_strOfNums, List.length_cons, List.length_nil, rowsE_length, ByteArray.size_append]; omega)))) | simp (maxSteps := 1000000) (disch := omega) only [go_sem, wI, wB, Int.toNat_natCast, natS1, natS2, rowsE_at, rowsE_get, rowsE_snoc, Nat.mul_one, Nat.div_one, Nat.mod_one, c93_eq])
  · rw [szES, if_pos h]
  · refine LoopK_of (α := Nat × Int) (fun p => ⟨[(5, i64 p.1), (1, i64 p.2), (0, ⟨.one, [.ro 2 (rowsE l)]⟩)], [], [(0, ⟨.one, [.ro 2 (rowsE l)]⟩), (1, i64 n)]⟩) (fun p => p.1 ≤ l.length ∧ (0 ≤ p.2 ∧ p.2 ≤ 1048576) ∧ szEL (l.drop p.1) p.2 = szEL l (n - l.length)) (fun p => l.length - p.1) (0, n - l.length) rfl ⟨by simp, by simp only; omega, rfl⟩ ?_
    rintro ⟨i, m⟩ ⟨h1, h2, h3⟩
    simp only at h1 h2 h3
    have hs : i < l.length → (l.getD i eZ).2.size ≤ 9223372036854775807 := fun h => hyp.2.2 _ (getD_mem eZ h)
    by_cases hi : i < l.length
    · have hs := hs hi
      simp (maxSteps := 1000000) (disch := omega) only [go_sem, wI, wB, x33, r33_0, r33_1, r33_2, r33_3, r33_4, r33_5, r33_7, r33_8, r33_9, r33_6, r33_10, Int.toNat_natCast, natS1, natS2, rowsE_at, rowsE_get, rowsE_snoc, Nat.mul_one, Nat.div_one, Nat.mod_one, c93_eq]
      repeat' (first | ((with_reducible apply scEnd_of); exact rfl; exact rfl) | ((with_reducible apply ScW_of); rfl; rfl; trivial; (intro h; try simp only [HS] at h)) | ((with_reducible apply Br_of) <;> (intro h; (try simp only [h]); (try simp only [HS] at h))) | ((with_reducible first | refine Opt_put_if ?_ ?_ | refine Opt_if ?_ ?_); (· (first | omega | (refine ⟨?_, ?_⟩ <;> omega) | (refine ⟨?_, ?_, ?_⟩ <;> omega) | (refine ⟨rfl, ?_⟩; simp only [okBig, Bool.and_eq_true, decide_eq_true_eq]; omega) | (refine Nat.le_trans (Nat.add_le_add_left (varS_le _) _) ?_; simp only [size_strOfNums, List.length_cons, List.length_nil, rowsE_length, ByteArray.size_append]; omega) | (refine ⟨rfl, ?_⟩; simp only [okBig, Bool.and_eq_true, decide_eq_true_eq, size_strOfNums, List.length_cons, List.length_nil, rowsE_length, ByteArray.size_append]; omega) | (simp only [size_strOfNums, List.length_cons, List.length_nil, rowsE_length, ByteArray.size_append]; omega)))) | ((with_reducible refine Opt_bind_ifn ?_ ?_); (· omega)) | ((with_reducible first | refine Opt_bind_if ?_ ?_ | refine Opt_ifb ?_ ?_); (· (first | omega | (refine ⟨?_, ?_⟩ <;> omega) | (refine ⟨?_, ?_, ?_⟩ <;> omega) | (refine ⟨rfl, ?_⟩; simp only [okBig, Bool.and_eq_true, decide_eq_true_eq]; omega) | (refine Nat.le_trans (Nat.add_le_add_left (varS_le _) _) ?_; simp only [size_strOfNums, List.length_cons, List.length_nil, rowsE_length, ByteArray.size_append]; omega) | (refine ⟨rfl, ?_⟩; simp only [okBig, Bool.and_eq_true, decide_eq_true_eq, size_strOfNums, List.length_cons, List.length_nil, rowsE_length, ByteArray.size_append]; omega) | (simp only [size_strOfNums, List.length_cons, List.length_nil, rowsE_length, ByteArray.size_append]; omega)))) | simp (maxSteps := 1000000) (disch := omega) only [go_sem, wI, wB, Int.toNat_natCast, natS1, natS2, rowsE_at, rowsE_get, rowsE_snoc, Nat.mul_one, Nat.div_one, Nat.mod_one, c93_eq])
      all_goals (try (exfalso; omega))
      · unfold szB at h; split at h
        · rw [drop_getD eZ (by omega), szEL, if_pos (by assumption)] at h3; rw [szES, if_neg (by omega), ← h3]
        · omega
      · have e : szB (l.getD i eZ).2 m = m - (l.getD i eZ).2.size := by unfold szB at h ⊢; split at h <;> split <;> omega
        rw [e] at h ⊢
        rw [drop_getD eZ (by omega), szEL, if_neg (by omega)] at h3
        exact LoopQ_of (i + 1, m - (l.getD i eZ).2.size) rfl ⟨by simp only; omega, by simp only; omega, h3⟩ (by simp only; omega)
    · simp (maxSteps := 1000000) (disch := omega) only [go_sem, wI, wB, x33, r33_0, r33_1, r33_2, r33_3, r33_4, r33_5, r33_7, r33_8, r33_9, r33_6, r33_10, Int.toNat_natCast, natS1, natS2, rowsE_at, rowsE_get, rowsE_snoc, Nat.mul_one, Nat.div_one, Nat.mod_one, c93_eq]
      repeat' (first | ((with_reducible apply scEnd_of); exact rfl; exact rfl) | ((with_reducible apply ScW_of); rfl; rfl; trivial; (intro h; try simp only [HS] at h)) | ((with_reducible apply Br_of) <;> (intro h; (try simp only [h]); (try simp only [HS] at h))) | ((with_reducible first | refine Opt_put_if ?_ ?_ | refine Opt_if ?_ ?_); (· (first | omega | (refine ⟨?_, ?_⟩ <;> omega) | (refine ⟨?_, ?_, ?_⟩ <;> omega) | (refine ⟨rfl, ?_⟩; simp only [okBig, Bool.and_eq_true, decide_eq_true_eq]; omega) | (refine Nat.le_trans (Nat.add_le_add_left (varS_le _) _) ?_; simp only [size_strOfNums, List.length_cons, List.length_nil, rowsE_length, ByteArray.size_append]; omega) | (refine ⟨rfl, ?_⟩; simp only [okBig, Bool.and_eq_true, decide_eq_true_eq, size_strOfNums, List.length_cons, List.length_nil, rowsE_length, ByteArray.size_append]; omega) | (simp only [size_strOfNums, List.length_cons, List.length_nil, rowsE_length, ByteArray.size_append]; omega)))) | ((with_reducible refine Opt_bind_ifn ?_ ?_); (· omega)) | ((with_reducible first | refine Opt_bind_if ?_ ?_ | refine Opt_ifb ?_ ?_); (· (first | omega | (refine ⟨?_, ?_⟩ <;> omega) | (refine ⟨?_, ?_, ?_⟩ <;> omega) | (refine ⟨rfl, ?_⟩; simp only [okBig, Bool.and_eq_true, decide_eq_true_eq]; omega) | (refine Nat.le_trans (Nat.add_le_add_left (varS_le _) _) ?_; simp only [size_strOfNums, List.length_cons, List.length_nil, rowsE_length, ByteArray.size_append]; omega) | (refine ⟨rfl, ?_⟩; simp only [okBig, Bool.and_eq_true, decide_eq_true_eq, size_strOfNums, List.length_cons, List.length_nil, rowsE_length, ByteArray.size_append]; omega) | (simp only [size_strOfNums, List.length_cons, List.length_nil, rowsE_length, ByteArray.size_append]; omega)))) | simp (maxSteps := 1000000) (disch := omega) only [go_sem, wI, wB, Int.toNat_natCast, natS1, natS2, rowsE_at, rowsE_get, rowsE_snoc, Nat.mul_one, Nat.div_one, Nat.mod_one, c93_eq])
      all_goals (try (exfalso; omega))
      · rw [List.drop_of_length_le (by omega), szEL] at h3; rw [szES, if_neg (by omega), ← h3]
noncomputable def c33 : List SV → Refs → Option (SV × List SV × Refs) := ctrOf (α := (List EV) × Int) (fun ⟨l, n⟩ => (0 ≤ n ∧ n ≤ 1048576) ∧ l.length ≤ 9223372036854775807 ∧ (∀ e ∈ l, e.2.size ≤ 9223372036854775807)) (fun ⟨l, n⟩ => [⟨.one, [.ro 2 (rowsE l)]⟩, ⟨.one, [.int .i64 n]⟩]) (fun ⟨l, n⟩ => []) (fun ⟨l, n⟩ => ⟨.one, [.int .i64 (szES l n)]⟩) (fun ⟨l, n⟩ => [⟨.one, [.ro 2 (rowsE l)]⟩, ⟨.one, [.int .i64 n]⟩]) (fun ⟨l, n⟩ => [])
theorem ctr33 : Ctr Try.prog 33 c33 := ctrOf_ok k33 (fun ⟨l, n⟩ hyp => g33 _ _ hyp)
theorem c33_eq {l : List EV} {n : Int} (hyp : (0 ≤ n ∧ n ≤ 1048576) ∧ l.length ≤ 9223372036854775807 ∧ (∀ e ∈ l, e.2.size ≤ 9223372036854775807)) : c33 [⟨.one, [.ro 2 (rowsE l)]⟩, ⟨.one, [.int .i64 n]⟩] [] = some (⟨.one, [.int .i64 (szES l n)]⟩, [⟨.one, [.ro 2 (rowsE l)]⟩, ⟨.one, [.int .i64 n]⟩], []) := ctrOf_eq (α := (List EV) × Int) (x := (l, n)) (by intro x y h1 h2; simp at h1 h2; first | exact h1 | (simp_all; done) | (ext <;> simp_all)) hyp

theorem g97 (a : Int) (b : ByteArray) : Good Try.prog 97 [⟨.agg, [.int .i64 a, .str b]⟩] [] (⟨.agg, [.int .i64 a, .str b]⟩) [⟨.agg, [.int .i64 a, .str b]⟩] [] := by
  refine Good_of (E := envOf []) (envOk_of trivial) Try.func97 m97 rfl ?_
  simp (maxSteps := 1000000) (disch := omega) only [go_sem, wI, wB, x97, r97_0, r97_1, r97_2, r97_3, r97_4, Int.toNat_natCast, natS1, natS2, rowsE_at, rowsE_get, rowsE_snoc, Nat.mul_one, Nat.div_one, Nat.mod_one]
  repeat' (first | ((with_reducible apply scEnd_of); exact rfl; exact rfl) | ((with_reducible apply ScW_of); rfl; rfl; trivial; (intro h; try simp only [HS] at h)) | ((with_reducible apply Br_of) <;> (intro h; (try simp only [h]); (try simp only [HS] at h))) | ((with_reducible first | refine Opt_put_if ?_ ?_ | refine Opt_if ?_ ?_); (· (first | omega | (refine ⟨?_, ?_⟩ <;> omega) | (refine ⟨?_, ?_, ?_⟩ <;> omega) | (refine ⟨rfl, ?_⟩; simp only [okBig, Bool.and_eq_true, decide_eq_true_eq]; omega) | (refine Nat.le_trans (Nat.add_le_add_left (varS_le _) _) ?_; simp only [size_strOfNums, List.length_cons, List.length_nil, rowsE_length, ByteArray.size_append]; omega) | (refine ⟨rfl, ?_⟩; simp only [okBig, Bool.and_eq_true, decide_eq_true_eq, size_strOfNums, List.length_cons, List.length_nil, rowsE_length, ByteArray.size_append]; omega) | (simp only [size_strOfNums, List.length_cons, List.length_nil, rowsE_length, ByteArray.size_append]; omega)))) | ((with_reducible refine Opt_bind_ifn ?_ ?_); (· omega)) | ((with_reducible first | refine Opt_bind_if ?_ ?_ | refine Opt_ifb ?_ ?_); (· (first | omega | (refine ⟨?_, ?_⟩ <;> omega) | (refine ⟨?_, ?_, ?_⟩ <;> omega) | (refine ⟨rfl, ?_⟩; simp only [okBig, Bool.and_eq_true, decide_eq_true_eq]; omega) | (refine Nat.le_trans (Nat.add_le_add_left (varS_le _) _) ?_; simp only [size_strOfNums, List.length_cons, List.length_nil, rowsE_length, ByteArray.size_append]; omega) | (refine ⟨rfl, ?_⟩; simp only [okBig, Bool.and_eq_true, decide_eq_true_eq, size_strOfNums, List.length_cons, List.length_nil, rowsE_length, ByteArray.size_append]; omega) | (simp only [size_strOfNums, List.length_cons, List.length_nil, rowsE_length, ByteArray.size_append]; omega)))) | simp (maxSteps := 1000000) (disch := omega) only [go_sem, wI, wB, Int.toNat_natCast, natS1, natS2, rowsE_at, rowsE_get, rowsE_snoc, Nat.mul_one, Nat.div_one, Nat.mod_one])
noncomputable def c97 : List SV → Refs → Option (SV × List SV × Refs)
  | [⟨.agg, [.int .i64 a, .str b]⟩], [] => some (⟨.agg, [.int .i64 a, .str b]⟩, [⟨.agg, [.int .i64 a, .str b]⟩], [])
  | _, _ => none
theorem ctr97 : Ctr Try.prog 97 c97 := by
  refine ⟨k97, fun args rf res args' rf' h => ?_⟩
  unfold c97 at h
  split at h
  · simp only [Option.some.injEq, Prod.mk.injEq] at h
    obtain ⟨rfl, rfl, rfl⟩ := h
    exact g97 _ _
  · simp at h
@[go_sem] theorem c97_eq {a : Int} {b : ByteArray} : c97 [⟨.agg, [.int .i64 a, .str b]⟩] [] = some (⟨.agg, [.int .i64 a, .str b]⟩, [⟨.agg, [.int .i64 a, .str b]⟩], []) := rfl

attribute [go_sem] elemSt modP
theorem modify_row {α : Type} {l : List α} {i : Nat} {f : α → α} {r : α} (h : l[i]? = some r) : l.modify i f = l.set i (f r) := by
  apply List.ext_getElem?
  intro j
  rw [List.getElem?_modify, List.getElem?_set]
  obtain ⟨hi, rfl⟩ := List.getElem?_eq_some_iff.1 h
  by_cases hj : i = j
  · subst hj; simp [hi]
  · simp [hj]
theorem setCells_row {sz i : Nat} : ∀ (ds : List D) (rows : List (List D)) (j : Nat) (r : List D), rows[i]? = some r → r.length = sz → j + ds.length ≤ sz → setCells sz rows (i * sz + j) ds = rows.set i (r.take j ++ ds ++ r.drop (j + ds.length))
  | [], rows, j, r, hr, hl, hj => by
    obtain ⟨hi, rfl⟩ := List.getElem?_eq_some_iff.1 hr
    simp [setCells]
  | d :: ds, rows, j, r, hr, hl, hj => by
    have hi : i < rows.length := (List.getElem?_eq_some_iff.1 hr).1
    simp only [List.length_cons] at hj
    have hd : (i * sz + j) / sz = i := by rw [Nat.mul_comm, Nat.mul_add_div (by omega), Nat.div_eq_of_lt (by omega), Nat.add_zero]
    have hm : (i * sz + j) % sz = j := by rw [Nat.mul_comm, Nat.mul_add_mod, Nat.mod_eq_of_lt (by omega)]
    have hs : setCellAt sz rows (i * sz + j) d = rows.set i (r.set j d) := by
      unfold setCellAt
      rw [hd, hm]
      exact modify_row hr
    have hr2 : (rows.set i (r.set j d))[i]? = some (r.set j d) := by rw [List.getElem?_set_self hi]
    have ih := setCells_row ds (rows.set i (r.set j d)) (j + 1) (r.set j d) hr2 (by rw [List.length_set, hl]) (by omega)
    rw [setCells, hs, show i * sz + j + 1 = i * sz + (j + 1) by omega, ih, List.set_set]
    congr 1
    rw [List.length_cons, show j + 1 + ds.length = j + (ds.length + 1) by omega, List.drop_set_of_lt (by omega)]
    congr 1
    rw [List.take_succ_eq_append_getElem (by rw [List.length_set]; omega), List.take_set_of_le (by omega)]
    simp
theorem setCells_full {sz i : Nat} {ds : List D} {rows : List (List D)} {r : List D} (hr : rows[i]? = some r) (hl : r.length = sz) (hd : ds.length = sz) : setCells sz rows (i * sz) ds = rows.set i ds := by
  have := setCells_row ds rows 0 r hr hl (by omega)
  rw [Nat.add_zero] at this
  rw [this, List.drop_of_length_le (by omega)]; simp
theorem rowsE_put {l : List EV} {i : Nat} {a : Int} {b : ByteArray} (h : i < l.length) : setCells 2 (rowsE l) (i * 2) [.int .i64 a, .str b] = rowsE (l.set i (a, b)) := by
  rw [setCells_full (sz := 2) (rowsE_get h) rfl (show ([.int .i64 a, .str b] : List D).length = 2 from rfl)]
  simp [rowsE, List.map_set]
theorem fill_step {α : Type} {l : List α} {i : Nat} (z : α) (h : i < l.length) : (l.take i ++ List.replicate (l.length - i) z).set i (l.getD i z) = l.take (i + 1) ++ List.replicate (l.length - (i + 1)) z := by
  have hl : (l.take i).length = i := by rw [List.length_take]; omega
  rw [List.set_append_right _ _ (by omega), hl, Nat.sub_self, show l.length - i = (l.length - (i + 1)) + 1 by omega, List.replicate_succ, List.set_cons_zero,
    List.take_succ_eq_append_getElem h, List.append_assoc]
  simp [List.getD, h]
theorem take_snocZ {α : Type} {l : List α} {i : Nat} (z : α) (h : i < l.length) : l.take (i + 1) = l.take i ++ [l.getD i z] := by
  rw [List.take_succ_eq_append_getElem h]; simp [List.getD, h]
theorem rowsE_set {l : List EV} {i n : Nat} (h : i < n) : rowsE (l.take i ++ List.replicate (n - i) eZ) = rowsE (l.take i) ++ List.replicate (n - i) [.int .i64 0, .str ⟨#[]⟩] := by
  simp [rowsE, eZ]

theorem g42 (l : List EV) (hyp : l.length ≤ 1048576) : Good Try.prog 42 [⟨.one, [.ro 2 (rowsE l)]⟩] [] (⟨.one, [.own 2 (rowsE l)]⟩) [⟨.one, [.ro 2 (rowsE l)]⟩] [] := by
  refine Good_of (E := envOf [(97, c97)]) (envOk_of ⟨ctr97, trivial⟩) Try.func42 m42 rfl ?_
  simp (maxSteps := 1000000) (disch := omega) only [go_sem, wI, wB, x42, r42_0, r42_1, r42_2, r42_3, r42_5, r42_4, r42_6, Int.toNat_natCast, natS1, natS2, rowsE_at, rowsE_get, rowsE_snoc, Nat.mul_one, Nat.div_one, Nat.mod_one]
  repeat' (first | ((with_reducible apply scEnd_of); exact rfl; exact rfl) | ((with_reducible apply ScW_of); rfl; rfl; trivial; (intro h; try simp only [HS] at h)) | ((with_reducible apply Br_of) <;> (intro h; (try simp only [h]); (try simp only [HS] at h))) | ((with_reducible first | refine Opt_put_if ?_ ?_ | refine Opt_if ?_ ?_); (· (first | omega | (refine ⟨?_, ?_⟩ <;> omega) | (refine ⟨?_, ?_, ?_⟩ <;> omega) | (refine ⟨rfl, ?_⟩; simp only [okBig, Bool.and_eq_true, decide_eq_true_eq]; omega) | (refine Nat.le_trans (Nat.add_le_add_left (varS_le _) _) ?_; simp only [size_strOfNums, List.length_cons, List.length_nil, rowsE_length, ByteArray.size_append]; omega) | (refine ⟨rfl, ?_⟩; simp only [okBig, Bool.and_eq_true, decide_eq_true_eq, size_strOfNums, List.length_cons, List.length_nil, rowsE_length, ByteArray.size_append]; omega) | (simp only [size_strOfNums, List.length_cons, List.length_nil, rowsE_length, ByteArray.size_append]; omega)))) | ((with_reducible refine Opt_bind_ifn ?_ ?_); (· omega)) | ((with_reducible first | refine Opt_bind_if ?_ ?_ | refine Opt_ifb ?_ ?_); (· (first | omega | (refine ⟨?_, ?_⟩ <;> omega) | (refine ⟨?_, ?_, ?_⟩ <;> omega) | (refine ⟨rfl, ?_⟩; simp only [okBig, Bool.and_eq_true, decide_eq_true_eq]; omega) | (refine Nat.le_trans (Nat.add_le_add_left (varS_le _) _) ?_; simp only [size_strOfNums, List.length_cons, List.length_nil, rowsE_length, ByteArray.size_append]; omega) | (refine ⟨rfl, ?_⟩; simp only [okBig, Bool.and_eq_true, decide_eq_true_eq, size_strOfNums, List.length_cons, List.length_nil, rowsE_length, ByteArray.size_append]; omega) | (simp only [size_strOfNums, List.length_cons, List.length_nil, rowsE_length, ByteArray.size_append]; omega)))) | simp (maxSteps := 1000000) (disch := omega) only [go_sem, wI, wB, Int.toNat_natCast, natS1, natS2, rowsE_at, rowsE_get, rowsE_snoc, Nat.mul_one, Nat.div_one, Nat.mod_one])
  refine LoopK_of (α := Nat) (fun p => ⟨[(4, i64 p), (3, ⟨.one, [.own 2 (rowsE (l.take p ++ List.replicate (l.length - p) eZ))]⟩), (0, ⟨.one, [.ro 2 (rowsE l)]⟩)], [], [(0, ⟨.one, [.ro 2 (rowsE l)]⟩)]⟩) (fun p => p ≤ l.length) (fun p => l.length - p) 0 ?h0 (Nat.zero_le _) ?_
  case h0 => rw [List.take_zero, List.nil_append, Nat.sub_zero]; unfold rowsE; rw [List.map_replicate]; rfl
  intro i hi
  have hlen : (l.take i ++ List.replicate (l.length - i) eZ).length = l.length := by simp; omega
  simp (maxSteps := 1000000) (disch := omega) only [go_sem, wI, wB, x42, r42_0, r42_1, r42_2, r42_3, r42_5, r42_4, r42_6, Int.toNat_natCast, natS1, natS2, rowsE_at, rowsE_get, rowsE_snoc, Nat.mul_one, Nat.div_one, Nat.mod_one, hlen]
  repeat' (first | ((with_reducible apply scEnd_of); exact rfl; exact rfl) | ((with_reducible apply ScW_of); rfl; rfl; trivial; (intro h; try simp only [HS] at h)) | ((with_reducible apply Br_of) <;> (intro h; (try simp only [h]); (try simp only [HS] at h))) | ((with_reducible first | refine Opt_put_if ?_ ?_ | refine Opt_if ?_ ?_); (· (first | omega | (refine ⟨?_, ?_⟩ <;> omega) | (refine ⟨?_, ?_, ?_⟩ <;> omega) | (refine ⟨rfl, ?_⟩; simp only [okBig, Bool.and_eq_true, decide_eq_true_eq]; omega) | (refine Nat.le_trans (Nat.add_le_add_left (varS_le _) _) ?_; simp only [size_strOfNums, List.length_cons, List.length_nil, rowsE_length, ByteArray.size_append]; omega) | (refine ⟨rfl, ?_⟩; simp only [okBig, Bool.and_eq_true, decide_eq_true_eq, size_strOfNums, List.length_cons, List.length_nil, rowsE_length, ByteArray.size_append]; omega) | (simp only [size_strOfNums, List.length_cons, List.length_nil, rowsE_length, ByteArray.size_append]; omega)))) | ((with_reducible refine Opt_bind_ifn ?_ ?_); (· omega)) | ((with_reducible first | refine Opt_bind_if ?_ ?_ | refine Opt_ifb ?_ ?_); (· (first | omega | (refine ⟨?_, ?_⟩ <;> omega) | (refine ⟨?_, ?_, ?_⟩ <;> omega) | (refine ⟨rfl, ?_⟩; simp only [okBig, Bool.and_eq_true, decide_eq_true_eq]; omega) | (refine Nat.le_trans (Nat.add_le_add_left (varS_le _) _) ?_; simp only [size_strOfNums, List.length_cons, List.length_nil, rowsE_length, ByteArray.size_append]; omega) | (refine ⟨rfl, ?_⟩; simp only [okBig, Bool.and_eq_true, decide_eq_true_eq, size_strOfNums, List.length_cons, List.length_nil, rowsE_length, ByteArray.size_append]; omega) | (simp only [size_strOfNums, List.length_cons, List.length_nil, rowsE_length, ByteArray.size_append]; omega)))) | simp (maxSteps := 1000000) (disch := omega) only [go_sem, wI, wB, Int.toNat_natCast, natS1, natS2, rowsE_at, rowsE_get, rowsE_snoc, Nat.mul_one, Nat.div_one, Nat.mod_one, hlen, rowsE_put])
  · have e : ((l.getD i eZ).1, (l.getD i eZ).2) = l.getD i eZ := rfl
    rw [e, fill_step eZ (by omega)]
    exact LoopQ_of (i + 1) rfl (by omega) (by omega)
  · have e : i = l.length := by omega
    subst e
    simp
noncomputable def c42 : List SV → Refs → Option (SV × List SV × Refs) := ctrOf (α := (List EV)) (fun l => l.length ≤ 1048576) (fun l => [⟨.one, [.ro 2 (rowsE l)]⟩]) (fun l => []) (fun l => ⟨.one, [.own 2 (rowsE l)]⟩) (fun l => [⟨.one, [.ro 2 (rowsE l)]⟩]) (fun l => [])
theorem ctr42 : Ctr Try.prog 42 c42 := ctrOf_ok k42 (fun l hyp => g42 _ hyp)
theorem c42_eq {l : List EV} (hyp : l.length ≤ 1048576) : c42 [⟨.one, [.ro 2 (rowsE l)]⟩] [] = some (⟨.one, [.own 2 (rowsE l)]⟩, [⟨.one, [.ro 2 (rowsE l)]⟩], []) := ctrOf_eq (α := (List EV)) (x := l) (by intro x y h1 h2; simp at h1 h2; first | exact h1 | (simp_all; done) | (ext <;> simp_all)) hyp

theorem g102 (a : Int) (b : ByteArray) (c : Int) (d : ByteArray) : Good Try.prog 102 [⟨.agg, [.int .i64 a, .str b]⟩, ⟨.agg, [.int .i64 c, .str d]⟩] [] (⟨.one, [.bool (decide (a = c) && decide (b = d))]⟩) [⟨.agg, [.int .i64 a, .str b]⟩, ⟨.agg, [.int .i64 c, .str d]⟩] [] := by
  refine Good_of (E := envOf []) (envOk_of trivial) Try.func102 m102 rfl ?_
  simp (maxSteps := 1000000) (disch := omega) only [go_sem, wI, wB, x102, r102_0, r102_1, r102_2, r102_3, r102_4, r102_5, Int.toNat_natCast, natS1, natS2, rowsE_at, rowsE_get, rowsE_snoc, Nat.mul_one, Nat.div_one, Nat.mod_one]
  repeat' (first | ((with_reducible apply scEnd_of); exact rfl; exact rfl) | ((with_reducible apply ScW_of); rfl; rfl; trivial; (intro h; try simp only [HS] at h)) | ((with_reducible apply Br_of) <;> (intro h; (try simp only [h]); (try simp only [HS] at h))) | ((with_reducible first | refine Opt_put_if ?_ ?_ | refine Opt_if ?_ ?_); (· (first | omega | (refine ⟨?_, ?_⟩ <;> omega) | (refine ⟨?_, ?_, ?_⟩ <;> omega) | (refine ⟨rfl, ?_⟩; simp only [okBig, Bool.and_eq_true, decide_eq_true_eq]; omega) | (refine Nat.le_trans (Nat.add_le_add_left (varS_le _) _) ?_; simp only [size_strOfNums, List.length_cons, List.length_nil, rowsE_length, ByteArray.size_append]; omega) | (refine ⟨rfl, ?_⟩; simp only [okBig, Bool.and_eq_true, decide_eq_true_eq, size_strOfNums, List.length_cons, List.length_nil, rowsE_length, ByteArray.size_append]; omega) | (simp only [size_strOfNums, List.length_cons, List.length_nil, rowsE_length, ByteArray.size_append]; omega)))) | ((with_reducible refine Opt_bind_ifn ?_ ?_); (· omega)) | ((with_reducible first | refine Opt_bind_if ?_ ?_ | refine Opt_ifb ?_ ?_); (· (first | omega | (refine ⟨?_, ?_⟩ <;> omega) | (refine ⟨?_, ?_, ?_⟩ <;> omega) | (refine ⟨rfl, ?_⟩; simp only [okBig, Bool.and_eq_true, decide_eq_true_eq]; omega) | (refine Nat.le_trans (Nat.add_le_add_left (varS_le _) _) ?_; simp only [size_strOfNums, List.length_cons, List.length_nil, rowsE_length, ByteArray.size_append]; omega) | (refine ⟨rfl, ?_⟩; simp only [okBig, Bool.and_eq_true, decide_eq_true_eq, size_strOfNums, List.length_cons, List.length_nil, rowsE_length, ByteArray.size_append]; omega) | (simp only [size_strOfNums, List.length_cons, List.length_nil, rowsE_length, ByteArray.size_append]; omega)))) | simp (maxSteps := 1000000) (disch := omega) only [go_sem, wI, wB, Int.toNat_natCast, natS1, natS2, rowsE_at, rowsE_get, rowsE_snoc, Nat.mul_one, Nat.div_one, Nat.mod_one])
  all_goals simp_all
noncomputable def c102 : List SV → Refs → Option (SV × List SV × Refs)
  | [⟨.agg, [.int .i64 a, .str b]⟩, ⟨.agg, [.int .i64 c, .str d]⟩], [] => some (⟨.one, [.bool (decide (a = c) && decide (b = d))]⟩, [⟨.agg, [.int .i64 a, .str b]⟩, ⟨.agg, [.int .i64 c, .str d]⟩], [])
  | _, _ => none
theorem ctr102 : Ctr Try.prog 102 c102 := by
  refine ⟨k102, fun args rf res args' rf' h => ?_⟩
  unfold c102 at h
  split at h
  · simp only [Option.some.injEq, Prod.mk.injEq] at h
    obtain ⟨rfl, rfl, rfl⟩ := h
    exact g102 _ _ _ _
  · simp at h
@[go_sem] theorem c102_eq {a : Int} {b : ByteArray} {c : Int} {d : ByteArray} : c102 [⟨.agg, [.int .i64 a, .str b]⟩, ⟨.agg, [.int .i64 c, .str d]⟩] [] = some (⟨.one, [.bool (decide (a = c) && decide (b = d))]⟩, [⟨.agg, [.int .i64 a, .str b]⟩, ⟨.agg, [.int .i64 c, .str d]⟩], []) := rfl

theorem g52 (l m : List EV) (hyp : l.length ≤ 1048576) : Good Try.prog 52 [⟨.one, [.ro 2 (rowsE l)]⟩, ⟨.one, [.ro 2 (rowsE m)]⟩] [] (⟨.one, [.bool (eqE l m)]⟩) [⟨.one, [.ro 2 (rowsE l)]⟩, ⟨.one, [.ro 2 (rowsE m)]⟩] [] := by
  refine Good_of (E := envOf [(102, c102)]) (envOk_of ⟨ctr102, trivial⟩) Try.func52 m52 rfl ?_
  simp (maxSteps := 1000000) (disch := omega) only [go_sem, wI, wB, x52, r52_0, r52_1, r52_2, r52_3, r52_4, r52_6v, r52_6t, r52_7, r52_5, r52_8, Int.toNat_natCast, natS1, natS2, rowsE_at, rowsE_get, rowsE_snoc, Nat.mul_one, Nat.div_one, Nat.mod_one]
  repeat' (first | ((with_reducible apply scEnd_of); exact rfl; exact rfl) | ((with_reducible apply ScW_of); rfl; rfl; trivial; (intro h; try simp only [HS] at h)) | ((with_reducible apply Br_of) <;> (intro h; (try simp only [h]); (try simp only [HS] at h))) | ((with_reducible first | refine Opt_put_if ?_ ?_ | refine Opt_if ?_ ?_); (· (first | omega | (refine ⟨?_, ?_⟩ <;> omega) | (refine ⟨?_, ?_, ?_⟩ <;> omega) | (refine ⟨rfl, ?_⟩; simp only [okBig, Bool.and_eq_true, decide_eq_true_eq]; omega) | (refine Nat.le_trans (Nat.add_le_add_left (varS_le _) _) ?_; simp only [size_strOfNums, List.length_cons, List.length_nil, rowsE_length, ByteArray.size_append]; omega) | (refine ⟨rfl, ?_⟩; simp only [okBig, Bool.and_eq_true, decide_eq_true_eq, size_strOfNums, List.length_cons, List.length_nil, rowsE_length, ByteArray.size_append]; omega) | (simp only [size_strOfNums, List.length_cons, List.length_nil, rowsE_length, ByteArray.size_append]; omega)))) | ((with_reducible refine Opt_bind_ifn ?_ ?_); (· omega)) | ((with_reducible first | refine Opt_bind_if ?_ ?_ | refine Opt_ifb ?_ ?_); (· (first | omega | (refine ⟨?_, ?_⟩ <;> omega) | (refine ⟨?_, ?_, ?_⟩ <;> omega) | (refine ⟨rfl, ?_⟩; simp only [okBig, Bool.and_eq_true, decide_eq_true_eq]; omega) | (refine Nat.le_trans (Nat.add_le_add_left (varS_le _) _) ?_; simp only [size_strOfNums, List.length_cons, List.length_nil, rowsE_length, ByteArray.size_append]; omega) | (refine ⟨rfl, ?_⟩; simp only [okBig, Bool.and_eq_true, decide_eq_true_eq, size_strOfNums, List.length_cons, List.length_nil, rowsE_length, ByteArray.size_append]; omega) | (simp only [size_strOfNums, List.length_cons, List.length_nil, rowsE_length, ByteArray.size_append]; omega)))) | simp (maxSteps := 1000000) (disch := omega) only [go_sem, wI, wB, Int.toNat_natCast, natS1, natS2, rowsE_at, rowsE_get, rowsE_snoc, Nat.mul_one, Nat.div_one, Nat.mod_one])
  · rw [eqE, decide_eq_false]; rintro rfl; omega
  · refine LoopK_of (α := Nat) (fun p => ⟨[(5, i64 p), (1, ⟨.one, [.ro 2 (rowsE m)]⟩), (0, ⟨.one, [.ro 2 (rowsE l)]⟩)], [], [(0, ⟨.one, [.ro 2 (rowsE l)]⟩), (1, ⟨.one, [.ro 2 (rowsE m)]⟩)]⟩) (fun p => p ≤ l.length ∧ l.take p = m.take p) (fun p => l.length - p) 0 rfl ⟨Nat.zero_le _, by simp⟩ ?_
    rintro i ⟨h1, h2⟩
    simp (maxSteps := 1000000) (disch := omega) only [go_sem, wI, wB, x52, r52_0, r52_1, r52_2, r52_3, r52_4, r52_6v, r52_6t, r52_7, r52_5, r52_8, Int.toNat_natCast, natS1, natS2, rowsE_at, rowsE_get, rowsE_snoc, Nat.mul_one, Nat.div_one, Nat.mod_one]
    repeat' (first | ((with_reducible apply scEnd_of); exact rfl; exact rfl) | ((with_reducible apply ScW_of); rfl; rfl; trivial; (intro h; try simp only [HS] at h)) | ((with_reducible apply Br_of) <;> (intro h; (try simp only [h]); (try simp only [HS] at h))) | ((with_reducible first | refine Opt_put_if ?_ ?_ | refine Opt_if ?_ ?_); (· (first | omega | (refine ⟨?_, ?_⟩ <;> omega) | (refine ⟨?_, ?_, ?_⟩ <;> omega) | (refine ⟨rfl, ?_⟩; simp only [okBig, Bool.and_eq_true, decide_eq_true_eq]; omega) | (refine Nat.le_trans (Nat.add_le_add_left (varS_le _) _) ?_; simp only [size_strOfNums, List.length_cons, List.length_nil, rowsE_length, ByteArray.size_append]; omega) | (refine ⟨rfl, ?_⟩; simp only [okBig, Bool.and_eq_true, decide_eq_true_eq, size_strOfNums, List.length_cons, List.length_nil, rowsE_length, ByteArray.size_append]; omega) | (simp only [size_strOfNums, List.length_cons, List.length_nil, rowsE_length, ByteArray.size_append]; omega)))) | ((with_reducible refine Opt_bind_ifn ?_ ?_); (· omega)) | ((with_reducible first | refine Opt_bind_if ?_ ?_ | refine Opt_ifb ?_ ?_); (· (first | omega | (refine ⟨?_, ?_⟩ <;> omega) | (refine ⟨?_, ?_, ?_⟩ <;> omega) | (refine ⟨rfl, ?_⟩; simp only [okBig, Bool.and_eq_true, decide_eq_true_eq]; omega) | (refine Nat.le_trans (Nat.add_le_add_left (varS_le _) _) ?_; simp only [size_strOfNums, List.length_cons, List.length_nil, rowsE_length, ByteArray.size_append]; omega) | (refine ⟨rfl, ?_⟩; simp only [okBig, Bool.and_eq_true, decide_eq_true_eq, size_strOfNums, List.length_cons, List.length_nil, rowsE_length, ByteArray.size_append]; omega) | (simp only [size_strOfNums, List.length_cons, List.length_nil, rowsE_length, ByteArray.size_append]; omega)))) | simp (maxSteps := 1000000) (disch := omega) only [go_sem, wI, wB, Int.toNat_natCast, natS1, natS2, rowsE_at, rowsE_get, rowsE_snoc, Nat.mul_one, Nat.div_one, Nat.mod_one])
    · rw [eqE, decide_eq_false]; rintro rfl; rcases h with h | h <;> exact h rfl
    · refine LoopQ_of (i + 1) rfl ⟨by omega, ?_⟩ (by omega)
      rw [take_snocZ eZ (by omega), take_snocZ eZ (by omega), h2]
      congr 2
      exact Prod.ext h.1 h.2
    · rw [List.take_of_length_le (by omega), List.take_of_length_le (by omega)] at h2
      rw [eqE, decide_eq_true h2]
noncomputable def c52 : List SV → Refs → Option (SV × List SV × Refs) := ctrOf (α := (List EV) × (List EV)) (fun ⟨l, m⟩ => l.length ≤ 1048576) (fun ⟨l, m⟩ => [⟨.one, [.ro 2 (rowsE l)]⟩, ⟨.one, [.ro 2 (rowsE m)]⟩]) (fun ⟨l, m⟩ => []) (fun ⟨l, m⟩ => ⟨.one, [.bool (eqE l m)]⟩) (fun ⟨l, m⟩ => [⟨.one, [.ro 2 (rowsE l)]⟩, ⟨.one, [.ro 2 (rowsE m)]⟩]) (fun ⟨l, m⟩ => [])
theorem ctr52 : Ctr Try.prog 52 c52 := ctrOf_ok k52 (fun ⟨l, m⟩ hyp => g52 _ _ hyp)
theorem c52_eq {l m : List EV} (hyp : l.length ≤ 1048576) : c52 [⟨.one, [.ro 2 (rowsE l)]⟩, ⟨.one, [.ro 2 (rowsE m)]⟩] [] = some (⟨.one, [.bool (eqE l m)]⟩, [⟨.one, [.ro 2 (rowsE l)]⟩, ⟨.one, [.ro 2 (rowsE m)]⟩], []) := ctrOf_eq (α := (List EV) × (List EV)) (x := (l, m)) (by intro x y h1 h2; simp at h1 h2; first | exact h1 | (simp_all; done) | (ext <;> simp_all)) hyp

theorem g96 (l m : List EV) (hyp : l.length ≤ 1048576) : Good Try.prog 96 [⟨.one, [.ro 2 (rowsE l)]⟩, ⟨.one, [.ro 2 (rowsE m)]⟩] [] (⟨.one, [.bool (eqE l m)]⟩) [⟨.one, [.ro 2 (rowsE l)]⟩, ⟨.one, [.ro 2 (rowsE m)]⟩] [] := by
  refine Good_of (E := envOf []) (envOk_of trivial) Try.func96 m96 rfl ?_
  simp (maxSteps := 1000000) (disch := omega) only [go_sem, wI, wB, x96, r96_0, r96_1, r96_2, r96_3, r96_4, r96_6v, r96_6t, r96_7, r96_5, r96_8, Int.toNat_natCast, natS1, natS2, rowsE_at, rowsE_get, rowsE_snoc, Nat.mul_one, Nat.div_one, Nat.mod_one]
  repeat' (first | ((with_reducible apply scEnd_of); exact rfl; exact rfl) | ((with_reducible apply ScW_of); rfl; rfl; trivial; (intro h; try simp only [HS] at h)) | ((with_reducible apply Br_of) <;> (intro h; (try simp only [h]); (try simp only [HS] at h))) | ((with_reducible first | refine Opt_put_if ?_ ?_ | refine Opt_if ?_ ?_); (· (first | omega | (refine ⟨?_, ?_⟩ <;> omega) | (refine ⟨?_, ?_, ?_⟩ <;> omega) | (refine ⟨rfl, ?_⟩; simp only [okBig, Bool.and_eq_true, decide_eq_true_eq]; omega) | (refine Nat.le_trans (Nat.add_le_add_left (varS_le _) _) ?_; simp only [size_strOfNums, List.length_cons, List.length_nil, rowsE_length, ByteArray.size_append]; omega) | (refine ⟨rfl, ?_⟩; simp only [okBig, Bool.and_eq_true, decide_eq_true_eq, size_strOfNums, List.length_cons, List.length_nil, rowsE_length, ByteArray.size_append]; omega) | (simp only [size_strOfNums, List.length_cons, List.length_nil, rowsE_length, ByteArray.size_append]; omega)))) | ((with_reducible refine Opt_bind_ifn ?_ ?_); (· omega)) | ((with_reducible first | refine Opt_bind_if ?_ ?_ | refine Opt_ifb ?_ ?_); (· (first | omega | (refine ⟨?_, ?_⟩ <;> omega) | (refine ⟨?_, ?_, ?_⟩ <;> omega) | (refine ⟨rfl, ?_⟩; simp only [okBig, Bool.and_eq_true, decide_eq_true_eq]; omega) | (refine Nat.le_trans (Nat.add_le_add_left (varS_le _) _) ?_; simp only [size_strOfNums, List.length_cons, List.length_nil, rowsE_length, ByteArray.size_append]; omega) | (refine ⟨rfl, ?_⟩; simp only [okBig, Bool.and_eq_true, decide_eq_true_eq, size_strOfNums, List.length_cons, List.length_nil, rowsE_length, ByteArray.size_append]; omega) | (simp only [size_strOfNums, List.length_cons, List.length_nil, rowsE_length, ByteArray.size_append]; omega)))) | simp (maxSteps := 1000000) (disch := omega) only [go_sem, wI, wB, Int.toNat_natCast, natS1, natS2, rowsE_at, rowsE_get, rowsE_snoc, Nat.mul_one, Nat.div_one, Nat.mod_one])
  · rw [eqE, decide_eq_false]; rintro rfl; omega
  · refine LoopK_of (α := Nat) (fun p => ⟨[(5, i64 p), (1, ⟨.one, [.ro 2 (rowsE m)]⟩), (0, ⟨.one, [.ro 2 (rowsE l)]⟩)], [], [(0, ⟨.one, [.ro 2 (rowsE l)]⟩), (1, ⟨.one, [.ro 2 (rowsE m)]⟩)]⟩) (fun p => p ≤ l.length ∧ l.take p = m.take p) (fun p => l.length - p) 0 rfl ⟨Nat.zero_le _, by simp⟩ ?_
    rintro i ⟨h1, h2⟩
    simp (maxSteps := 1000000) (disch := omega) only [go_sem, wI, wB, x96, r96_0, r96_1, r96_2, r96_3, r96_4, r96_6v, r96_6t, r96_7, r96_5, r96_8, Int.toNat_natCast, natS1, natS2, rowsE_at, rowsE_get, rowsE_snoc, Nat.mul_one, Nat.div_one, Nat.mod_one]
    repeat' (first | ((with_reducible apply scEnd_of); exact rfl; exact rfl) | ((with_reducible apply ScW_of); rfl; rfl; trivial; (intro h; try simp only [HS] at h)) | ((with_reducible apply Br_of) <;> (intro h; (try simp only [h]); (try simp only [HS] at h))) | ((with_reducible first | refine Opt_put_if ?_ ?_ | refine Opt_if ?_ ?_); (· (first | omega | (refine ⟨?_, ?_⟩ <;> omega) | (refine ⟨?_, ?_, ?_⟩ <;> omega) | (refine ⟨rfl, ?_⟩; simp only [okBig, Bool.and_eq_true, decide_eq_true_eq]; omega) | (refine Nat.le_trans (Nat.add_le_add_left (varS_le _) _) ?_; simp only [size_strOfNums, List.length_cons, List.length_nil, rowsE_length, ByteArray.size_append]; omega) | (refine ⟨rfl, ?_⟩; simp only [okBig, Bool.and_eq_true, decide_eq_true_eq, size_strOfNums, List.length_cons, List.length_nil, rowsE_length, ByteArray.size_append]; omega) | (simp only [size_strOfNums, List.length_cons, List.length_nil, rowsE_length, ByteArray.size_append]; omega)))) | ((with_reducible refine Opt_bind_ifn ?_ ?_); (· omega)) | ((with_reducible first | refine Opt_bind_if ?_ ?_ | refine Opt_ifb ?_ ?_); (· (first | omega | (refine ⟨?_, ?_⟩ <;> omega) | (refine ⟨?_, ?_, ?_⟩ <;> omega) | (refine ⟨rfl, ?_⟩; simp only [okBig, Bool.and_eq_true, decide_eq_true_eq]; omega) | (refine Nat.le_trans (Nat.add_le_add_left (varS_le _) _) ?_; simp only [size_strOfNums, List.length_cons, List.length_nil, rowsE_length, ByteArray.size_append]; omega) | (refine ⟨rfl, ?_⟩; simp only [okBig, Bool.and_eq_true, decide_eq_true_eq, size_strOfNums, List.length_cons, List.length_nil, rowsE_length, ByteArray.size_append]; omega) | (simp only [size_strOfNums, List.length_cons, List.length_nil, rowsE_length, ByteArray.size_append]; omega)))) | simp (maxSteps := 1000000) (disch := omega) only [go_sem, wI, wB, Int.toNat_natCast, natS1, natS2, rowsE_at, rowsE_get, rowsE_snoc, Nat.mul_one, Nat.div_one, Nat.mod_one])
    · rw [eqE, decide_eq_false]; rintro rfl; rcases h with h | h <;> exact h rfl
    · refine LoopQ_of (i + 1) rfl ⟨by omega, ?_⟩ (by omega)
      rw [take_snocZ eZ (by omega), take_snocZ eZ (by omega), h2]
      congr 2
      exact Prod.ext h.1 h.2
    · rw [List.take_of_length_le (by omega), List.take_of_length_le (by omega)] at h2
      rw [eqE, decide_eq_true h2]
noncomputable def c96 : List SV → Refs → Option (SV × List SV × Refs) := ctrOf (α := (List EV) × (List EV)) (fun ⟨l, m⟩ => l.length ≤ 1048576) (fun ⟨l, m⟩ => [⟨.one, [.ro 2 (rowsE l)]⟩, ⟨.one, [.ro 2 (rowsE m)]⟩]) (fun ⟨l, m⟩ => []) (fun ⟨l, m⟩ => ⟨.one, [.bool (eqE l m)]⟩) (fun ⟨l, m⟩ => [⟨.one, [.ro 2 (rowsE l)]⟩, ⟨.one, [.ro 2 (rowsE m)]⟩]) (fun ⟨l, m⟩ => [])
theorem ctr96 : Ctr Try.prog 96 c96 := ctrOf_ok k96 (fun ⟨l, m⟩ hyp => g96 _ _ hyp)
theorem c96_eq {l m : List EV} (hyp : l.length ≤ 1048576) : c96 [⟨.one, [.ro 2 (rowsE l)]⟩, ⟨.one, [.ro 2 (rowsE m)]⟩] [] = some (⟨.one, [.bool (eqE l m)]⟩, [⟨.one, [.ro 2 (rowsE l)]⟩, ⟨.one, [.ro 2 (rowsE m)]⟩], []) := ctrOf_eq (α := (List EV) × (List EV)) (x := (l, m)) (by intro x y h1 h2; simp at h1 h2; first | exact h1 | (simp_all; done) | (ext <;> simp_all)) hyp

end Go.Eng
