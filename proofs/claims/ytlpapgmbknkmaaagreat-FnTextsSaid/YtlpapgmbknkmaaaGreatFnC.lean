/-
  Contracts of functions of the program, its reference and the laws: what each returns; the conditions stand in each contract.
-/
import Derived.Test.YtlpapgmbknkmaaaGreatFnB
set_option linter.unusedSimpArgs false
set_option linter.unusedVariables false
set_option maxRecDepth 100000
set_option maxHeartbeats 2000000
namespace Go.Eng
open Go Go.Proofs
theorem mem_le {l : List ByteArray} {s : ByteArray} (n : Nat) (h : l.all (fun s => decide (s.size ≤ n)) = true) (hs : s ∈ l) : s.size ≤ n := of_decide_eq_true (List.all_eq_true.1 h s hs)
theorem opS_le (o : OpV) : (opS o).size ≤ o.key.size + o.d.size + 40 := by
  unfold opS
  split
  · rename_i h
    have hk := okB_rng h
    have h1 := varS_le o.key.size
    have h2 := varS_le o.f
    have h3 := varS_le o.t
    unfold opT
    simp only [ByteArray.size_append, size_strOfNums, List.length_cons, List.length_nil]
    omega
  · exact Nat.zero_le _
theorem ansS_le (a : AnsV) : (ansS a).size ≤ a.d.size + 40 := by
  unfold ansS
  split
  · have h1 := varS_le a.c
    have h2 := varS_le a.i
    have h3 := varS_le a.m
    unfold ansT
    simp only [ByteArray.size_append]
    omega
  · exact Nat.zero_le _
theorem blockS_le (l : List Pt) : (blockS l).size ≤ 900 := by
  unfold blockS
  split
  · have h1 := varS_le l.length
    have h2 := timesS_le (l.map (·.1))
    have h3 := valuesS_le (l.map (·.2))
    have h4 : (blockB l).size ≤ 847 := by unfold blockB; simp only [ByteArray.size_append]; omega
    unfold frameS
    split
    · have h5 := fixS_le (blockB l).size 4
      have h6 := fixS_le (crcN (fixS (blockB l).size 4 ++ blockB l)) 4
      simp only [ByteArray.size_append]
      omega
    · exact Nat.zero_le _
  · exact Nat.zero_le _
attribute [push_cast] rowsI_length rowsP_length List.length_take List.length_map
instance g150 (l : List Pt) : Fs 150 [⟨.one, [.ro 2 (rowsP l)]⟩] (l.length ≤ 1000000) (bl (ptsB l)) := by
  refine F_of m150 rfl fun hyp => ?_
  repeat' (first | (with_reducible intro h; (try simp only [h]); (try simp only [HS] at h)) | ((with_reducible apply scEnd_of); exact rfl; exact rfl) | ((with_reducible apply ScW_of); rfl; rfl; trivial) | with_reducible first | apply Br_of | refine O1 ?_ | refine O2 ?_ | refine O3 ?_ | refine O4 ?_ | refine O5 ?_ | refine CI ?_ | refine CJ ?_ | refine CQp ?_ | refine CQ ?_ | simp (maxSteps := 1000000) (disch := omega) only [go_sem])
  · rw [ptsB_no fun hh => by have := hh.2.2; omega]
  · refine LoopK_of (α := Nat) (fun p => ⟨[(3, i64 p), (0, ⟨.one, [.ro 2 (rowsP l)]⟩)], [], [(0, ⟨.one, [.ro 2 (rowsP l)]⟩)]⟩) (fun p => p ≤ l.length ∧ riseTo (l.map (·.1)) p ∧ valTo (l.map (·.2)) p) (fun p => l.length - p) 0 rfl ⟨Nat.zero_le _, fun i hi => absurd hi (Nat.not_lt_zero i), fun i hi => absurd hi (Nat.not_lt_zero i)⟩ ?_
    rintro i ⟨h1, h2, h3⟩
    repeat' (first | (with_reducible intro h; (try simp only [h]); (try simp only [HS] at h)) | ((with_reducible apply scEnd_of); exact rfl; exact rfl) | ((with_reducible apply ScW_of); rfl; rfl; trivial) | with_reducible first | apply Br_of | refine O1 ?_ | refine O2 ?_ | refine O3 ?_ | refine O4 ?_ | refine O5 ?_ | refine CI ?_ | refine CJ ?_ | refine CQp ?_ | refine CQ ?_ | simp (maxSteps := 1000000) (disch := omega) only [go_sem])
    all_goals (try (exfalso; omega))
    all_goals first | (rw [ptsB_no (ptsOk_no1 (i := i) (by omega) (by omega))]; done) | exact LoopQ_of (i + 1) rfl ⟨by omega, riseTo_succ h2 (by omega) (by omega) (by omega), valTo_succ h3 (by omega) (by omega)⟩ (by omega) | (have e : i = l.length := (by omega); subst e; rw [ptsB_end h2 h3, decide_eq_true (by omega)])
instance g188 (l : List Pt) : Fs 188 [⟨.one, [.ro 2 (rowsP l)]⟩] (l.length ≤ 1000000) (st1 (blockS l)) := by
  refine F_of m188 rfl fun hyp => ?_
  repeat' (first | (with_reducible intro h; (try simp only [h]); (try simp only [HS] at h)) | ((with_reducible apply scEnd_of); exact rfl; exact rfl) | ((with_reducible apply ScW_of); rfl; rfl; trivial) | with_reducible first | apply Br_of | refine O1 ?_ | refine O2 ?_ | refine O3 ?_ | refine O4 ?_ | refine O5 ?_ | refine CI ?_ | refine CJ ?_ | refine CQp ?_ | refine CQ ?_ | simp (maxSteps := 1000000) (disch := omega) only [go_sem])
  · rw [blockS, if_neg]; rintro ⟨q1, q2⟩; have q3 := ptsB_yes q1; have q4 := List.length_pos_iff.2 q2; rw [q3] at h; simp at h; simp [h] at q4
  · have hok := ptsB_iff.1 h.1
    have hh := h
    have h60 := hok.2.2
    refine LoopK_of (α := Nat) (fun p => ⟨[(5, i64 p), (4, ⟨.one, [.own 1 (rowsI ((l.map (·.2)).take p))]⟩), (3, ⟨.one, [.own 1 (rowsI ((l.map (·.1)).take p))]⟩), (0, ⟨.one, [.ro 2 (rowsP l)]⟩)], [], [(0, ⟨.one, [.ro 2 (rowsP l)]⟩)]⟩) (fun p => p ≤ l.length) (fun p => l.length - p) 0 rfl (Nat.zero_le _) ?_
    intro i hi
    by_cases hl : i < l.length
    · repeat' (first | (with_reducible intro h; (try simp only [h]); (try simp only [HS] at h)) | ((with_reducible apply scEnd_of); exact rfl; exact rfl) | ((with_reducible apply ScW_of); rfl; rfl; trivial) | with_reducible first | apply Br_of | refine O1 ?_ | refine O2 ?_ | refine O3 ?_ | refine O4 ?_ | refine O5 ?_ | refine CI ?_ | refine CJ ?_ | refine CQp ?_ | refine CQ ?_ | simp (maxSteps := 1000000) (disch := omega) only [go_sem])
      · rw [← take_snocD _ (by rw [List.length_map]; omega), ← take_snocD _ (by rw [List.length_map]; omega)]
        exact LoopQ_of (i + 1) rfl (by omega) (by omega)
      · omega
    · have e : i = l.length := by omega
      subst e
      rw [List.take_of_length_le (by rw [List.length_map]; omega), List.take_of_length_le (by rw [List.length_map]; omega)]
      have z1 := varS_le l.length
      have z2 := timesS_le (l.map (·.1))
      have z3 := valuesS_le (l.map (·.2))
      have z4 : (l.map (·.1)).length ≤ 1000000 := by rw [List.length_map]; omega
      have z5 : (l.map (·.2)).length ≤ 1000000 := by rw [List.length_map]; omega
      repeat' (first | (with_reducible intro h; (try simp only [h]); (try simp only [HS] at h)) | ((with_reducible apply scEnd_of); exact rfl; exact rfl) | ((with_reducible apply ScW_of); rfl; rfl; trivial) | with_reducible first | apply Br_of | refine O1 ?_ | refine O2 ?_ | refine O3 ?_ | refine O4 ?_ | refine O5 ?_ | refine CI ?_ | refine CJ ?_ | refine CQp ?_ | refine CQ ?_ | simp (maxSteps := 1000000) (disch := omega) only [go_sem])
      · omega
      · rw [blockS, if_pos ⟨hok, fun e => hh.2 (by rw [e]; rfl)⟩]; rfl
instance g189 (b : List Int) (u : Value) (c : Cu b.length) (m : Int) : FcR Tryz.prog 189 [⟨.one, [.ptr 1000000 0]⟩, i64 m] [(1000000, [.rov u 1 (rowsB b), .int .i64 c.i, .int .i64 c.h])] (b.length ≤ 1048576 ∧ 1 ≤ m ∧ m ≤ 1000) (List Pt × Cu b.length) (fun p => (p.1.length : Int) ≤ m) (fun p => ⟨.one, [.own 2 (rowsP p.1)]⟩) (fun p => [⟨.one, [.ptr 1000000 0]⟩, i64 m]) (fun p => [(1000000, [.rov u 1 (rowsB b), .int .i64 p.2.i, .int .i64 p.2.h])]) := by
  refine FR_of m189 rfl fun hyp => ?_
  repeat' (first | (with_reducible intro h; (try simp only [h]); (try simp only [HS] at h)) | ((with_reducible apply scEnd_of); exact rfl; exact rfl) | ((with_reducible apply ScW_of); rfl; rfl; trivial) | with_reducible first | apply Br_of | refine O1 ?_ | refine O2 ?_ | refine O3 ?_ | refine O4 ?_ | refine O5 ?_ | refine CI ?_ | refine CJ ?_ | refine CQp ?_ | refine CQ ?_ | simp (maxSteps := 1000000) (disch := omega) only [go_sem])
  all_goals (try (exfalso; omega))
  refine LoopK_of (α := List Pt × Int × Int × Cu b.length) (fun p => ⟨[(7, i64 p.2.2.1), (6, i64 p.2.1), (5, ⟨.one, [.own 2 (rowsP p.1)]⟩), (0, ⟨.one, [.ptr 1000000 0]⟩)], [(1000000, [.rov u 1 (rowsB b), .int .i64 p.2.2.2.i, .int .i64 p.2.2.2.h])], [(0, ⟨.one, [.ptr 1000000 0]⟩), (1, i64 m)]⟩) (fun p => 0 ≤ p.2.2.1 ∧ p.1.length + p.2.2.1 ≤ m ∧ 0 ≤ p.2.1 ∧ p.2.1 ≤ 250 + 31 * p.1.length) (fun p => p.2.2.1.toNat) ([], _, _, _) rfl ?_ ?_
  case refine_1 => exact ⟨by dsimp only; omega, by dsimp only [List.length_nil]; omega, by dsimp only; omega, by dsimp only [List.length_nil]; omega⟩
  rintro ⟨l, t, n, c2⟩ ⟨h1, h2, h3, h4⟩
  simp only at h1 h2 h3 h4
  repeat' (first | (with_reducible intro h; (try simp only [h]); (try simp only [HS] at h)) | ((with_reducible apply scEnd_of); exact rfl; exact rfl) | ((with_reducible apply ScW_of); rfl; rfl; trivial) | with_reducible first | apply Br_of | refine O1 ?_ | refine O2 ?_ | refine O3 ?_ | refine O4 ?_ | refine O5 ?_ | refine CI ?_ | refine CJ ?_ | refine CQp ?_ | refine CQ ?_ | simp (maxSteps := 1000000) (disch := omega) only [go_sem])
  all_goals (try (exfalso; omega))
  all_goals first | (apply LoopQ_4; rfl; (exact ⟨by dsimp only; omega, by simp only [List.length_append, List.length_cons, List.length_nil]; push_cast; omega, by dsimp only; omega, by simp only [List.length_append, List.length_cons, List.length_nil]; push_cast; omega⟩); (dsimp only; omega)) | (apply FinR_p; (first | with_reducible rfl | rfl); rfl; rfl; (dsimp only; omega)) | skip
instance g204 (b : List Int) (u : Value) (c : Cu b.length)  : FcR Tryz.prog 204 [⟨.one, [.ptr 1000000 0]⟩] [(1000000, [.rov u 1 (rowsB b), .int .i64 c.i, .int .i64 c.h])] (b.length ≤ 1048576) (ByteArray × Cu b.length) (fun p => p.1.size ≤ 8) (fun p => st1 p.1) (fun p => [⟨.one, [.ptr 1000000 0]⟩]) (fun p => [(1000000, [.rov u 1 (rowsB b), .int .i64 p.2.i, .int .i64 p.2.h])]) := by
  refine FR_of m204 rfl fun hyp => ?_
  repeat' (first | (with_reducible intro h; (try simp only [h]); (try simp only [HS] at h)) | ((with_reducible apply scEnd_of); exact rfl; exact rfl) | ((with_reducible apply ScW_of); rfl; rfl; trivial) | with_reducible first | apply Br_of | refine O1 ?_ | refine O2 ?_ | refine O3 ?_ | refine O4 ?_ | refine O5 ?_ | refine CI ?_ | refine CJ ?_ | refine CQp ?_ | refine CQ ?_ | simp (maxSteps := 1000000) (disch := omega) only [go_sem])
  all_goals (try (exfalso; omega))
  all_goals (refine FinR_of ⟨_, _⟩ ?_ rfl rfl rfl; rename_i h; exact mem_le 8 (by rfl) h)
attribute [push_cast] ByteArray.size_extract
instance g105 (b : List Int) (u : Value) (c : Cu b.length) (s : ByteArray) : FcR Tryz.prog 105 [⟨.one, [.ptr 1000000 0]⟩, st1 s] [(1000000, [.rov u 1 (rowsB b), .int .i64 c.i, .int .i64 c.h])] (b.length ≤ 1048576 ∧ s.size ≤ 1000000) (ByteArray × Cu b.length) (fun p => p.1.size ≤ s.size + 3) (fun p => st1 p.1) (fun p => [⟨.one, [.ptr 1000000 0]⟩, st1 s]) (fun p => [(1000000, [.rov u 1 (rowsB b), .int .i64 p.2.i, .int .i64 p.2.h])]) := by
  refine FR_of m105 rfl fun hyp => ?_
  repeat' (first | (with_reducible intro h; (try simp only [h]); (try simp only [HS] at h)) | ((with_reducible apply scEnd_of); exact rfl; exact rfl) | ((with_reducible apply ScW_of); rfl; rfl; trivial) | with_reducible first | apply Br_of | refine O1 ?_ | refine O2 ?_ | refine O3 ?_ | refine O4 ?_ | refine O5 ?_ | refine CI ?_ | refine CJ ?_ | refine CQp ?_ | refine CQ ?_ | simp (maxSteps := 1000000) (disch := omega) only [go_sem])
  all_goals (try (exfalso; omega))
  all_goals first | (apply FinR_p; (first | with_reducible rfl | rfl); rfl; rfl; (dsimp only; simp only [ByteArray.size_append, size_strOfNums, List.length_cons, List.length_nil, ByteArray.size_extract]; omega)) | (apply FinR_p; (first | with_reducible rfl | rfl); rfl; rfl; (dsimp only; omega)) | skip
instance g101 (b : List Int) (u : Value) (c : Cu b.length)  : FcR Tryz.prog 101 [⟨.one, [.ptr 1000000 0]⟩] [(1000000, [.rov u 1 (rowsB b), .int .i64 c.i, .int .i64 c.h])] (b.length ≤ 1048576) (AnsV × Cu b.length) (fun p => p.1.d.size ≤ 2000) (fun p => ⟨.agg, [.int .i64 p.1.c, .int .i64 p.1.i, .int .i64 p.1.m, .str p.1.d]⟩) (fun p => [⟨.one, [.ptr 1000000 0]⟩]) (fun p => [(1000000, [.rov u 1 (rowsB b), .int .i64 p.2.i, .int .i64 p.2.h])]) := by
  refine FR_of m101 rfl fun hyp => ?_
  repeat' (first | (with_reducible intro h; (try simp only [h]); (try simp only [HS] at h)) | ((with_reducible apply scEnd_of); exact rfl; exact rfl) | ((with_reducible apply ScW_of); rfl; rfl; trivial) | with_reducible first | apply Br_of | refine O1 ?_ | refine O2 ?_ | refine O3 ?_ | refine O4 ?_ | refine O5 ?_ | refine CI ?_ | refine CJ ?_ | refine CQp ?_ | refine CQ ?_ | simp (maxSteps := 1000000) (disch := omega) only [go_sem])
  all_goals (try (exfalso; omega))
  all_goals first | (apply FinR_p (x := (⟨_, _, _, _⟩ : AnsV)); (first | with_reducible rfl | rfl); rfl; rfl; (dsimp only; omega)) | skip
  rename_i a0 k0 i0 a1 k1 i1 a2 k2 i2 d0 k3 i3 o k4 io ho q k5 iq n0 n1 n2 x k6
  refine LoopK_of (α := List Int) (fun p => ⟨[(5, ⟨.one, [.own 1 (rowsB p)]⟩), (4, i64 (900 + x)), (3, ⟨.one, [.ptr 3 0]⟩), (2, ⟨.one, [.ptr 2 0]⟩)], [(1000000, [.rov u 1 (rowsB b), .int .i64 k6.i, .int .i64 k6.h]), (3, [.int .i64 a0, .int .i64 a1, .int .i64 a2, .str d0]), (2, [ij 0, ij 0, ij 0, sj])], [(0, ⟨.one, [.ptr 1000000 0]⟩)]⟩) (fun p => p.length ≤ 901) (fun p => 901 - p.length) [] rfl (Nat.zero_le _) ?_
  intro p hp
  repeat' (first | (with_reducible intro h; (try simp only [h]); (try simp only [HS] at h)) | ((with_reducible apply scEnd_of); exact rfl; exact rfl) | ((with_reducible apply ScW_of); rfl; rfl; trivial) | with_reducible first | apply Br_of | refine O1 ?_ | refine O2 ?_ | refine O3 ?_ | refine O4 ?_ | refine O5 ?_ | refine CI ?_ | refine CJ ?_ | refine CQp ?_ | refine CQ ?_ | simp (maxSteps := 1000000) (disch := omega) only [go_sem, rowsB_snoc])
  all_goals (try (exfalso; omega))
  all_goals first | (refine LoopQ_of (p ++ [7]) rfl ?_ ?_ <;> (simp only [List.length_append, List.length_cons, List.length_nil]; omega)) | (apply FinR_p (x := (⟨_, _, _, _⟩ : AnsV)); (first | with_reducible rfl | rfl); rfl; rfl; (dsimp only; have hz := size_strOfNums p; omega))
instance g221 (b : List Int) (u : Value) (c : Cu b.length) (m tm tp : Int) : FcR Tryz.prog 221 [⟨.one, [.ptr 1000000 0]⟩, i64 m, i64 tm, i64 tp] [(1000000, [.rov u 1 (rowsB b), .int .i64 c.i, .int .i64 c.h])] (b.length ≤ 1048576 ∧ 0 ≤ m ∧ m ≤ 1000 ∧ 0 ≤ tm ∧ tm ≤ 1000 ∧ tp ≤ 2000) (List EV × Cu b.length) (fun p => (p.1.length : Int) ≤ m ∧ (∀ q ∈ p.1, q.2.size ≤ 8)) (fun p => ⟨.one, [.own 2 (rowsE p.1)]⟩) (fun p => [⟨.one, [.ptr 1000000 0]⟩, i64 m, i64 tm, i64 tp]) (fun p => [(1000000, [.rov u 1 (rowsB b), .int .i64 p.2.i, .int .i64 p.2.h])]) := by
  refine FR_of m221 rfl fun hyp => ?_
  repeat' (first | (with_reducible intro h; (try simp only [h]); (try simp only [HS] at h)) | ((with_reducible apply scEnd_of); exact rfl; exact rfl) | ((with_reducible apply ScW_of); rfl; rfl; trivial) | with_reducible first | apply Br_of | refine O1 ?_ | refine O2 ?_ | refine O3 ?_ | refine O4 ?_ | refine O5 ?_ | refine CI ?_ | refine CJ ?_ | refine CQp ?_ | refine CQ ?_ | simp (maxSteps := 1000000) (disch := omega) only [go_sem])
  all_goals (try (exfalso; omega))
  refine LoopK_of (α := List EV × Int × Int × Cu b.length) (fun p => ⟨[(10, i64 p.2.2.1), (9, ⟨.one, [.own 2 (rowsE p.1)]⟩), (3, i64 tp), (2, i64 p.2.1), (0, ⟨.one, [.ptr 1000000 0]⟩)], [(1000000, [.rov u 1 (rowsB b), .int .i64 p.2.2.2.i, .int .i64 p.2.2.2.h])], [(0, ⟨.one, [.ptr 1000000 0]⟩), (1, i64 m), (2, i64 tm), (3, i64 tp)]⟩) (fun p => 0 ≤ p.2.2.1 ∧ p.1.length + p.2.2.1 ≤ m ∧ (∀ q ∈ p.1, q.2.size ≤ 8) ∧ 0 ≤ p.2.1 ∧ p.2.1 ≤ 1000 + p.1.length) (fun p => p.2.2.1.toNat) ([], _, _, _) rfl ?_ ?_
  case refine_1 => exact ⟨by dsimp only; omega, by dsimp only [List.length_nil]; omega, (fun q hq => by simp at hq), by dsimp only; omega, by dsimp only [List.length_nil]; omega⟩
  rintro ⟨l, t, n, c2⟩ ⟨h1, h2, h3, h4, h5⟩
  simp only at h1 h2 h3 h4 h5
  repeat' (first | (with_reducible intro h; (try simp only [h]); (try simp only [HS] at h)) | ((with_reducible apply scEnd_of); exact rfl; exact rfl) | ((with_reducible apply scEndE_of); exact rfl; exact rfl; trivial) | ((with_reducible apply scEndD_of); exact rfl; trivial) | (with_reducible apply ScW_ofE) | with_reducible first | apply Br_of | refine O1 ?_ | refine O2 ?_ | refine O3 ?_ | refine O4 ?_ | refine O5 ?_ | refine CI ?_ | refine CJ ?_ | refine CQp ?_ | refine CQ ?_ | simp (maxSteps := 1000000) (disch := omega) only [go_sem])
  all_goals (try (exfalso; omega))
  all_goals first | (apply LoopQ_4; rfl; (exact ⟨by dsimp only; omega, by simp only [List.length_append, List.length_cons, List.length_nil]; push_cast; omega, (fun q hq => by rcases List.mem_append.1 hq with hq | hq; exact h3 q hq; simp at hq; subst hq; dsimp only; omega), by dsimp only; omega, by simp only [List.length_append, List.length_cons, List.length_nil]; push_cast; omega⟩); (dsimp only; omega)) | (apply FinR_p; (first | with_reducible rfl | rfl); rfl; rfl; (exact ⟨by dsimp only; omega, h3⟩))
theorem mem_leA {l : List ByteArray} {s : ByteArray} (n : Nat) (hs : s ∈ l) (h : l.all (fun s => decide (s.size ≤ n)) = true) : s.size ≤ n := mem_le n h hs
theorem CQ_op {P : Program} {f0 : FuncId} {args : List SV} {rf : Refs} {pre : Prop} {k0 : SV → List SV → Refs → Prop} {β : Type} {I : OpV × β → Prop} {res : OpV × β → SV} {args' : OpV × β → List SV} {rf' : OpV × β → Refs} [i0 : FcR P f0 args rf pre (OpV × β) I res args' rf'] (h : ∀ k key f t d z, I (⟨k, key, f, t, d⟩, z) → k0 (res (⟨k, key, f, t, d⟩, z)) (args' (⟨k, key, f, t, d⟩, z)) (rf' (⟨k, key, f, t, d⟩, z)))
    (hc : pre := by first | omega | trivial | assumption | (push_cast; omega) | ((repeat' apply And.intro) <;> first | assumption | omega | (push_cast; omega))) : CallR P f0 args rf k0 := i0.of hc fun x => h x.1.k x.1.key x.1.f x.1.t x.1.d x.2
theorem CR_op {P : Program} {f0 : FuncId} {args : List SV} {rf : Refs} {pre : Prop} {k0 : SV → List SV → Refs → Prop} {I : OpV → Prop} {res : OpV → SV} {args' : OpV → List SV} {rf' : OpV → Refs} [i0 : FcR P f0 args rf pre OpV I res args' rf'] (h : ∀ k key f t d, I ⟨k, key, f, t, d⟩ → k0 (res ⟨k, key, f, t, d⟩) (args' ⟨k, key, f, t, d⟩) (rf' ⟨k, key, f, t, d⟩))
    (hc : pre := by first | omega | trivial | assumption | (push_cast; omega) | ((repeat' apply And.intro) <;> first | assumption | omega | (push_cast; omega))) : CallR P f0 args rf k0 := i0.of hc fun x => h x.k x.key x.f x.t x.d
theorem CutK_op {β : Type} (n : Nat) (S : OpV × β → St) (I : OpV × β → Prop) {P : Program} {sl rfs : List Nat} {a b : XCode} {K : XExit → St → Prop} {st : St} (h : W P a (thenK (CutQ sl rfs S I) K) st)
    (h2 : ∀ k key f t d z, I (⟨k, key, f, t, d⟩, z) → W P b K (S (⟨k, key, f, t, d⟩, z))) : W P (SqC n a (.keep sl rfs b)) K st := CutK_of n S I h fun x => h2 x.1.k x.1.key x.1.f x.1.t x.1.d x.2
theorem CQ_ans {P : Program} {f0 : FuncId} {args : List SV} {rf : Refs} {pre : Prop} {k0 : SV → List SV → Refs → Prop} {β : Type} {I : AnsV × β → Prop} {res : AnsV × β → SV} {args' : AnsV × β → List SV} {rf' : AnsV × β → Refs} [i0 : FcR P f0 args rf pre (AnsV × β) I res args' rf'] (h : ∀ c i m d z, I (⟨c, i, m, d⟩, z) → k0 (res (⟨c, i, m, d⟩, z)) (args' (⟨c, i, m, d⟩, z)) (rf' (⟨c, i, m, d⟩, z)))
    (hc : pre := by first | omega | trivial | assumption | (push_cast; omega) | ((repeat' apply And.intro) <;> first | assumption | omega | (push_cast; omega))) : CallR P f0 args rf k0 := i0.of hc fun x => h x.1.c x.1.i x.1.m x.1.d x.2
theorem CR_ans {P : Program} {f0 : FuncId} {args : List SV} {rf : Refs} {pre : Prop} {k0 : SV → List SV → Refs → Prop} {I : AnsV → Prop} {res : AnsV → SV} {args' : AnsV → List SV} {rf' : AnsV → Refs} [i0 : FcR P f0 args rf pre AnsV I res args' rf'] (h : ∀ c i m d, I ⟨c, i, m, d⟩ → k0 (res ⟨c, i, m, d⟩) (args' ⟨c, i, m, d⟩) (rf' ⟨c, i, m, d⟩))
    (hc : pre := by first | omega | trivial | assumption | (push_cast; omega) | ((repeat' apply And.intro) <;> first | assumption | omega | (push_cast; omega))) : CallR P f0 args rf k0 := i0.of hc fun x => h x.c x.i x.m x.d
theorem CutK_ans {β : Type} (n : Nat) (S : AnsV × β → St) (I : AnsV × β → Prop) {P : Program} {sl rfs : List Nat} {a b : XCode} {K : XExit → St → Prop} {st : St} (h : W P a (thenK (CutQ sl rfs S I) K) st)
    (h2 : ∀ c i m d z, I (⟨c, i, m, d⟩, z) → W P b K (S (⟨c, i, m, d⟩, z))) : W P (SqC n a (.keep sl rfs b)) K st := CutK_of n S I h fun x => h2 x.1.c x.1.i x.1.m x.1.d x.2
theorem CQ_msg {P : Program} {f0 : FuncId} {args : List SV} {rf : Refs} {pre : Prop} {k0 : SV → List SV → Refs → Prop} {β : Type} {I : MsgV × β → Prop} {res : MsgV × β → SV} {args' : MsgV × β → List SV} {rf' : MsgV × β → Refs} [i0 : FcR P f0 args rf pre (MsgV × β) I res args' rf'] (h : ∀ k fr to tm ix it cm y e d z, I (⟨k, fr, to, tm, ix, it, cm, y, e, d⟩, z) → k0 (res (⟨k, fr, to, tm, ix, it, cm, y, e, d⟩, z)) (args' (⟨k, fr, to, tm, ix, it, cm, y, e, d⟩, z)) (rf' (⟨k, fr, to, tm, ix, it, cm, y, e, d⟩, z)))
    (hc : pre := by first | omega | trivial | assumption | (push_cast; omega) | ((repeat' apply And.intro) <;> first | assumption | omega | (push_cast; omega))) : CallR P f0 args rf k0 := i0.of hc fun x => h x.1.k x.1.fr x.1.to x.1.tm x.1.ix x.1.it x.1.cm x.1.y x.1.e x.1.d x.2
theorem CR_msg {P : Program} {f0 : FuncId} {args : List SV} {rf : Refs} {pre : Prop} {k0 : SV → List SV → Refs → Prop} {I : MsgV → Prop} {res : MsgV → SV} {args' : MsgV → List SV} {rf' : MsgV → Refs} [i0 : FcR P f0 args rf pre MsgV I res args' rf'] (h : ∀ k fr to tm ix it cm y e d, I ⟨k, fr, to, tm, ix, it, cm, y, e, d⟩ → k0 (res ⟨k, fr, to, tm, ix, it, cm, y, e, d⟩) (args' ⟨k, fr, to, tm, ix, it, cm, y, e, d⟩) (rf' ⟨k, fr, to, tm, ix, it, cm, y, e, d⟩))
    (hc : pre := by first | omega | trivial | assumption | (push_cast; omega) | ((repeat' apply And.intro) <;> first | assumption | omega | (push_cast; omega))) : CallR P f0 args rf k0 := i0.of hc fun x => h x.k x.fr x.to x.tm x.ix x.it x.cm x.y x.e x.d
theorem CutK_msg {β : Type} (n : Nat) (S : MsgV × β → St) (I : MsgV × β → Prop) {P : Program} {sl rfs : List Nat} {a b : XCode} {K : XExit → St → Prop} {st : St} (h : W P a (thenK (CutQ sl rfs S I) K) st)
    (h2 : ∀ k fr to tm ix it cm y e d z, I (⟨k, fr, to, tm, ix, it, cm, y, e, d⟩, z) → W P b K (S (⟨k, fr, to, tm, ix, it, cm, y, e, d⟩, z))) : W P (SqC n a (.keep sl rfs b)) K st := CutK_of n S I h fun x => h2 x.1.k x.1.fr x.1.to x.1.tm x.1.ix x.1.it x.1.cm x.1.y x.1.e x.1.d x.2
abbrev y137:=Sq r137_0<|Sq r137_1<|Sq (Sq r137_2<|If 13 r137_3 .skip)<|SqC 1 (Sq r137_4<|If 18 r137_5 .skip)<|Kp [0,4,5] [4]<|Sq r137_6<|Sq r137_7<|Sq r137_8<|SqC 2 (Sq r137_9<|.block 0 (Sq r137_10<|If 31 (Sq r137_11<|Sq r137_12<|Sq r137_13<|If 38 r137_14 .skip) (Sq r137_15<|If 42 r137_16 (Sq r137_17<|If 47 r137_18 (Sq r137_19<|If 53 (Sq r137_20<|r137_21) (Sq r137_22<|If 62 (Sq r137_23<|Sq r137_24<|r137_25) (Sq r137_26<|If 71 r137_27 .skip)))))))<|Kp [0,4,6] [4,6]<|SqC 3 (Sq r137_28<|If 77 (Sq r137_29<|.block 1 (Sq r137_31<|If 84 r137_32 (Sq r137_33<|If 90 r137_34 (Sq r137_35<|If 96 r137_36 (Sq r137_37<|If 102 r137_38 r137_30))))) .skip)<|Kp [4,6] [4,6]<|Sq r137_39<|.ret
theorem my137:fnOk Tryz.prog 137 y137 [.cell 4 5 true] 2=true:=by kernel_rfl
instance g137 (b : List Int) (u : Value) (c : Cu b.length) (kind : Int) : FcR Tryz.prog 137 [⟨.one, [.ptr 1000000 0]⟩, i64 kind] [(1000000, [.rov u 1 (rowsB b), .int .i64 c.i, .int .i64 c.h])] (b.length ≤ 1048576) (OpV × Cu b.length) (fun p => p.1.key.size ≤ 1000 ∧ p.1.d.size ≤ 2000) (fun p => ⟨.agg, [.int .i64 p.1.k, .str p.1.key, .int .i64 p.1.f, .int .i64 p.1.t, .str p.1.d]⟩) (fun p => [⟨.one, [.ptr 1000000 0]⟩, i64 kind]) (fun p => [(1000000, [.rov u 1 (rowsB b), .int .i64 p.2.i, .int .i64 p.2.h])]) := by
  refine FR_of my137 rfl fun hyp => ?_
  repeat' (first | (with_reducible intro h; (try simp only [h]); (try simp only [HS] at h)) | ((with_reducible apply scEnd_of); exact rfl; exact rfl) | ((with_reducible apply ScW_of); rfl; rfl; trivial) | with_reducible first | apply Br_of | refine O1 ?_ | refine O2 ?_ | refine O3 ?_ | refine O4 ?_ | refine O5 ?_ | refine CI ?_ | refine CJ ?_ | refine CQp ?_ | refine CQ ?_ | refine CutK_p (α := Int) (β := Cu b.length) 1 (fun p => ⟨[(5, i64 p.1), (4, ⟨.one, [.ptr 4 0]⟩), (0, ⟨.one, [.ptr 1000000 0]⟩)], [(1000000, [.rov u 1 (rowsB b), .int .i64 p.2.i, .int .i64 p.2.h]), (4, [ij 0, sj, ij 0, ij 0, sj])], [(0, ⟨.one, [.ptr 1000000 0]⟩), (1, i64 kind)]⟩) (fun _ => True) ?_ ?_ | refine CutK_op (β := Cu b.length) 2 (fun p => ⟨[(6, ⟨.one, [.ptr 6 0]⟩), (4, ⟨.one, [.ptr 4 0]⟩), (0, ⟨.one, [.ptr 1000000 0]⟩)], [(1000000, [.rov u 1 (rowsB b), .int .i64 p.2.i, .int .i64 p.2.h]), (6, [.int .i64 p.1.k, .str p.1.key, .int .i64 p.1.f, .int .i64 p.1.t, .str p.1.d]), (4, [ij 0, sj, ij 0, ij 0, sj])], [(0, ⟨.one, [.ptr 1000000 0]⟩), (1, i64 kind)]⟩) (fun p => p.1.key.size ≤ 1000 ∧ p.1.d.size ≤ 1000) ?_ ?_ | refine CutK_op (β := Cu b.length) 3 (fun p => ⟨[(6, ⟨.one, [.ptr 6 0]⟩), (4, ⟨.one, [.ptr 4 0]⟩)], [(1000000, [.rov u 1 (rowsB b), .int .i64 p.2.i, .int .i64 p.2.h]), (6, [.int .i64 p.1.k, .str p.1.key, .int .i64 p.1.f, .int .i64 p.1.t, .str p.1.d]), (4, [ij 0, sj, ij 0, ij 0, sj])], [(0, ⟨.one, [.ptr 1000000 0]⟩), (1, i64 kind)]⟩) (fun p => p.1.key.size ≤ 1000 ∧ p.1.d.size ≤ 2000) ?_ ?_ | simp (maxSteps := 1000000) (disch := omega) only [go_sem])
  all_goals (try (exfalso; omega))
  all_goals first | (apply CutQ_p (x := (⟨_, _, _, _, _⟩ : OpV)); rfl; (refine ⟨?_, ?_⟩ <;> first | (dsimp only; omega) | exact Nat.le_trans (blockS_le _) (by decide) | exact Nat.le_trans (mem_leA 9 (by assumption) (by rfl)) (by decide) | exact Nat.zero_le _)) | (apply FinR_p (x := (⟨_, _, _, _, _⟩ : OpV)); (first | with_reducible rfl | rfl); rfl; rfl; (refine ⟨?_, ?_⟩ <;> first | (dsimp only; omega) | exact Nat.le_trans (blockS_le _) (by decide) | exact Nat.le_trans (mem_leA 9 (by assumption) (by rfl)) (by decide) | exact Nat.zero_le _)) | (apply CutQ_p; rfl; (trivial))
instance g154 (b : List Int) (u : Value) (c : Cu b.length)  : FcR Tryz.prog 154 [⟨.one, [.ptr 1000000 0]⟩] [(1000000, [.rov u 1 (rowsB b), .int .i64 c.i, .int .i64 c.h])] (b.length ≤ 1048576) (MsgV × Cu b.length) (fun p => (-1000 ≤ p.1.fr ∧ p.1.fr ≤ 1000) ∧ (-1000 ≤ p.1.to ∧ p.1.to ≤ 1000) ∧ p.1.e.length ≤ 100 ∧ (∀ q ∈ p.1.e, q.2.size ≤ 8) ∧ p.1.d.size ≤ 5000) (fun p => ⟨.agg, [.int .i64 p.1.k, .int .i64 p.1.fr, .int .i64 p.1.to, .int .i64 p.1.tm, .int .i64 p.1.ix, .int .i64 p.1.it, .int .i64 p.1.cm, .bool p.1.y, .own 2 (rowsE p.1.e), .str p.1.d]⟩) (fun p => [⟨.one, [.ptr 1000000 0]⟩]) (fun p => [(1000000, [.rov u 1 (rowsB b), .int .i64 p.2.i, .int .i64 p.2.h])]) := by
  refine FR_of m154 rfl fun hyp => ?_
  repeat' (first | (with_reducible intro h; (try simp only [h]); (try simp only [HS] at h)) | ((with_reducible apply scEnd_of); exact rfl; exact rfl) | ((with_reducible apply ScW_of); rfl; rfl; trivial) | with_reducible first | apply Br_of | refine O1 ?_ | refine O2 ?_ | refine O3 ?_ | refine O4 ?_ | refine O5 ?_ | refine CI ?_ | refine CJ ?_ | refine CQ_op ?_ | refine CQ_ans ?_ | refine CQ_msg ?_ | refine CQp ?_ | refine CQ ?_ | simp (maxSteps := 1000000) (disch := omega) only [go_sem])
  all_goals (try (exfalso; omega))
  all_goals first | (apply FinR_p (x := (⟨_, _, _, _, _, _, _, _, [], _⟩ : MsgV)); (first | with_reducible rfl | rfl); rfl; rfl; (refine ⟨⟨?_, ?_⟩, ⟨?_, ?_⟩, ?_, ?_, ?_⟩ <;> first | (dsimp only; omega) | exact (fun q hq => absurd hq (List.not_mem_nil)) | exact Nat.zero_le _ | exact (by assumption : _ ∧ _).2 | (dsimp only; assumption) | exact (fun q hq => by rcases List.mem_append.1 hq with hq | hq; exact (by assumption : ∀ q ∈ _, q.2.size ≤ 8) q hq; simp at hq; subst hq; dsimp only; first | omega | exact Nat.zero_le _) | (dsimp only; simp only [List.length_append, List.length_cons, List.length_nil, ByteArray.size_append]; omega) | exact Nat.le_trans (opS_le _) (by dsimp only; omega) | exact Nat.le_trans (ansS_le _) (by dsimp only; omega))) | (apply FinR_p (x := (⟨_, _, _, _, _, _, _, _, _, _⟩ : MsgV)); (first | with_reducible rfl | rfl); rfl; rfl; (refine ⟨⟨?_, ?_⟩, ⟨?_, ?_⟩, ?_, ?_, ?_⟩ <;> first | (dsimp only; omega) | exact (fun q hq => absurd hq (List.not_mem_nil)) | exact Nat.zero_le _ | exact (by assumption : _ ∧ _).2 | (dsimp only; assumption) | exact (fun q hq => by rcases List.mem_append.1 hq with hq | hq; exact (by assumption : ∀ q ∈ _, q.2.size ≤ 8) q hq; simp at hq; subst hq; dsimp only; first | omega | exact Nat.zero_le _) | (dsimp only; simp only [List.length_append, List.length_cons, List.length_nil, ByteArray.size_append]; omega) | exact Nat.le_trans (opS_le _) (by dsimp only; omega) | exact Nat.le_trans (ansS_le _) (by dsimp only; omega)))
instance g153 (b : List Int) (u : Value) (c : Cu b.length) (pe tm tp : Int) : FcR Tryz.prog 153 [⟨.one, [.ptr 1000000 0]⟩, i64 pe, i64 tm, i64 tp] [(1000000, [.rov u 1 (rowsB b), .int .i64 c.i, .int .i64 c.h])] (b.length ≤ 1048576 ∧ 0 ≤ pe ∧ pe ≤ 100 ∧ 1 ≤ tm ∧ tm ≤ 100 ∧ 0 ≤ tp ∧ tp ≤ 100) (MsgV × Cu b.length) (fun p => (-1000 ≤ p.1.fr ∧ p.1.fr ≤ 1000) ∧ (-1000 ≤ p.1.to ∧ p.1.to ≤ 1000) ∧ p.1.e.length ≤ 100 ∧ (∀ q ∈ p.1.e, q.2.size ≤ 8) ∧ p.1.d.size ≤ 5000) (fun p => ⟨.agg, [.int .i64 p.1.k, .int .i64 p.1.fr, .int .i64 p.1.to, .int .i64 p.1.tm, .int .i64 p.1.ix, .int .i64 p.1.it, .int .i64 p.1.cm, .bool p.1.y, .own 2 (rowsE p.1.e), .str p.1.d]⟩) (fun p => [⟨.one, [.ptr 1000000 0]⟩, i64 pe, i64 tm, i64 tp]) (fun p => [(1000000, [.rov u 1 (rowsB b), .int .i64 p.2.i, .int .i64 p.2.h])]) := by
  refine FR_of m153 rfl fun hyp => ?_
  repeat' (first | (with_reducible intro h; (try simp only [h]); (try simp only [HS] at h)) | ((with_reducible apply scEnd_of); exact rfl; exact rfl) | ((with_reducible apply ScW_of); rfl; rfl; trivial) | with_reducible first | apply Br_of | refine O1 ?_ | refine O2 ?_ | refine O3 ?_ | refine O4 ?_ | refine O5 ?_ | refine CI ?_ | refine CJ ?_ | refine CQ_op ?_ | refine CQ_ans ?_ | refine CQ_msg ?_ | refine CQp ?_ | refine CQ ?_ | simp (maxSteps := 1000000) (disch := omega) only [go_sem])
  all_goals (try (exfalso; omega))
  all_goals first | (apply FinR_p (x := (⟨_, _, _, _, _, _, _, _, [], _⟩ : MsgV)); (first | with_reducible rfl | rfl); rfl; rfl; (refine ⟨⟨?_, ?_⟩, ⟨?_, ?_⟩, ?_, ?_, ?_⟩ <;> first | (dsimp only; omega) | exact (fun q hq => absurd hq (List.not_mem_nil)) | exact Nat.zero_le _ | exact (by assumption : _ ∧ _).2 | (dsimp only; assumption) | exact (fun q hq => by rcases List.mem_append.1 hq with hq | hq; exact (by assumption : ∀ q ∈ _, q.2.size ≤ 8) q hq; simp at hq; subst hq; dsimp only; first | omega | exact Nat.zero_le _) | (dsimp only; simp only [List.length_append, List.length_cons, List.length_nil, ByteArray.size_append]; omega) | exact Nat.le_trans (opS_le _) (by dsimp only; omega) | exact Nat.le_trans (ansS_le _) (by dsimp only; omega))) | (apply FinR_p (x := (⟨_, _, _, _, _, _, _, _, _, _⟩ : MsgV)); (first | with_reducible rfl | rfl); rfl; rfl; (refine ⟨⟨?_, ?_⟩, ⟨?_, ?_⟩, ?_, ?_, ?_⟩ <;> first | (dsimp only; omega) | exact (fun q hq => absurd hq (List.not_mem_nil)) | exact Nat.zero_le _ | exact (by assumption : _ ∧ _).2 | (dsimp only; assumption) | exact (fun q hq => by rcases List.mem_append.1 hq with hq | hq; exact (by assumption : ∀ q ∈ _, q.2.size ≤ 8) q hq; simp at hq; subst hq; dsimp only; first | omega | exact Nat.zero_le _) | (dsimp only; simp only [List.length_append, List.length_cons, List.length_nil, ByteArray.size_append]; omega) | exact Nat.le_trans (opS_le _) (by dsimp only; omega) | exact Nat.le_trans (ansS_le _) (by dsimp only; omega)))
theorem msgE {A B C D E F : Prop} {e : List EV} (h : (A ∧ B) ∧ (C ∧ D) ∧ E ∧ (∀ q ∈ e, q.2.size ≤ 8) ∧ F) : ∀ q ∈ e, q.2.size ≤ 8 := h.2.2.2.1
instance g62 (b : List Int) (u : Value) (c : Cu b.length)  : FcR Tryz.prog 62 [⟨.one, [.ptr 1000000 0]⟩] [(1000000, [.rov u 1 (rowsB b), .int .i64 c.i, .int .i64 c.h])] (b.length ≤ 1048576) (MsgV × Cu b.length) (fun p => (-1000 ≤ p.1.fr ∧ p.1.fr ≤ 1000) ∧ (-1000 ≤ p.1.to ∧ p.1.to ≤ 1000) ∧ p.1.e.length ≤ 101 ∧ (∀ q ∈ p.1.e, q.2.size ≤ 8) ∧ p.1.d.size ≤ 5001) (fun p => ⟨.agg, [.int .i64 p.1.k, .int .i64 p.1.fr, .int .i64 p.1.to, .int .i64 p.1.tm, .int .i64 p.1.ix, .int .i64 p.1.it, .int .i64 p.1.cm, .bool p.1.y, .own 2 (rowsE p.1.e), .str p.1.d]⟩) (fun p => [⟨.one, [.ptr 1000000 0]⟩]) (fun p => [(1000000, [.rov u 1 (rowsB b), .int .i64 p.2.i, .int .i64 p.2.h])]) := by
  refine FR_of m62 rfl fun hyp => ?_
  repeat' (first | (with_reducible intro h; (try simp only [h]); (try simp only [HS] at h)) | ((with_reducible apply scEnd_of); exact rfl; exact rfl) | ((with_reducible apply ScW_of); rfl; rfl; trivial) | with_reducible first | apply Br_of | refine O1 ?_ | refine O2 ?_ | refine O3 ?_ | refine O4 ?_ | refine O5 ?_ | refine CI ?_ | refine CJ ?_ | refine CQ_op ?_ | refine CQ_ans ?_ | refine CQ_msg ?_ | refine CQp ?_ | refine CQ ?_ | simp (maxSteps := 1000000) (disch := omega) only [go_sem, rowsE_snoc, List.size_toArray, List.length_cons, List.length_nil])
  all_goals (try simp only [List.mem_cons, List.mem_singleton, List.not_mem_nil, or_false] at *)
  all_goals (try (exfalso; omega))
  all_goals first | (apply FinR_p (x := (⟨_, _, _, _, _, _, _, _, [], _⟩ : MsgV)); (first | with_reducible rfl | rfl); rfl; rfl; (refine ⟨⟨?_, ?_⟩, ⟨?_, ?_⟩, ?_, ?_, ?_⟩ <;> first | (dsimp only; omega) | exact (fun q hq => absurd hq (List.not_mem_nil)) | exact Nat.zero_le _ | exact (by assumption : _ ∧ _).2 | exact msgE (by assumption) | exact (fun q hq => by rcases List.mem_append.1 hq with hq | hq; exact msgE (by assumption) q hq; simp at hq; subst hq; dsimp only; first | omega | exact Nat.zero_le _) | (dsimp only; simp only [List.length_append, List.length_cons, List.length_nil, ByteArray.size_append]; omega) | (dsimp only; rw [ByteArray.size_append, show (⟨#[120]⟩ : ByteArray).size = 1 from rfl]; omega) | exact Nat.le_trans (opS_le _) (by dsimp only; omega) | exact Nat.le_trans (ansS_le _) (by dsimp only; omega))) | (apply FinR_p (x := (⟨_, _, _, _, _, _, _, _, _, _⟩ : MsgV)); (first | with_reducible rfl | rfl); rfl; rfl; (refine ⟨⟨?_, ?_⟩, ⟨?_, ?_⟩, ?_, ?_, ?_⟩ <;> first | (dsimp only; omega) | exact (fun q hq => absurd hq (List.not_mem_nil)) | exact Nat.zero_le _ | exact (by assumption : _ ∧ _).2 | exact msgE (by assumption) | exact (fun q hq => by rcases List.mem_append.1 hq with hq | hq; exact msgE (by assumption) q hq; simp at hq; subst hq; dsimp only; first | omega | exact Nat.zero_le _) | (dsimp only; simp only [List.length_append, List.length_cons, List.length_nil, ByteArray.size_append]; omega) | (dsimp only; rw [ByteArray.size_append, show (⟨#[120]⟩ : ByteArray).size = 1 from rfl]; omega) | exact Nat.le_trans (opS_le _) (by dsimp only; omega) | exact Nat.le_trans (ansS_le _) (by dsimp only; omega)))
instance g15 (b : List Int) : FcR Tryz.prog 15 [⟨.one, [.ro 1 (rowsB b)]⟩] [] (b.length ≤ 1048576) (MsgV) (fun p => (-1000 ≤ p.fr ∧ p.fr ≤ 1000) ∧ (-1000 ≤ p.to ∧ p.to ≤ 1000) ∧ p.e.length ≤ 101 ∧ (∀ q ∈ p.e, q.2.size ≤ 8) ∧ p.d.size ≤ 5001) (fun p => ⟨.agg, [.int .i64 p.k, .int .i64 p.fr, .int .i64 p.to, .int .i64 p.tm, .int .i64 p.ix, .int .i64 p.it, .int .i64 p.cm, .bool p.y, .own 2 (rowsE p.e), .str p.d]⟩) (fun p => [⟨.one, [.ro 1 (rowsB b)]⟩]) (fun p => []) := by
  refine FR_of m15 rfl fun hyp => ?_
  repeat' (first | (with_reducible intro h; (try simp only [h]); (try simp only [HS] at h)) | ((with_reducible apply scEnd_of); exact rfl; exact rfl) | ((with_reducible apply ScW_of); rfl; rfl; trivial) | with_reducible first | apply Br_of | refine O1 ?_ | refine O2 ?_ | refine O3 ?_ | refine O4 ?_ | refine O5 ?_ | refine CI ?_ | refine CJ ?_ | refine CQ_op ?_ | refine CQ_ans ?_ | refine CQ_msg ?_ | refine CQp ?_ | refine CQ ?_ | refine CN ?_ | simp (maxSteps := 1000000) (disch := omega) only [go_sem])
  all_goals (try (exfalso; omega))
  all_goals first | (apply FinR_1 (x := (⟨_, _, _, _, _, _, _, _, [], _⟩ : MsgV)); (first | with_reducible rfl | rfl); rfl; rfl; (refine ⟨⟨?_, ?_⟩, ⟨?_, ?_⟩, ?_, ?_, ?_⟩ <;> first | (dsimp only; omega) | exact (fun q hq => absurd hq (List.not_mem_nil)) | exact Nat.zero_le _ | exact (by assumption : _ ∧ _).2 | exact msgE (by assumption) | exact (fun q hq => by rcases List.mem_append.1 hq with hq | hq; exact msgE (by assumption) q hq; simp at hq; subst hq; dsimp only; first | omega | exact Nat.zero_le _) | (dsimp only; simp only [List.length_append, List.length_cons, List.length_nil, ByteArray.size_append]; omega) | (dsimp only; rw [ByteArray.size_append, show (⟨#[120]⟩ : ByteArray).size = 1 from rfl]; omega) | exact Nat.le_trans (opS_le _) (by dsimp only; omega) | exact Nat.le_trans (ansS_le _) (by dsimp only; omega))) | (apply FinR_1 (x := (⟨_, _, _, _, _, _, _, _, _, _⟩ : MsgV)); (first | with_reducible rfl | rfl); rfl; rfl; (refine ⟨⟨?_, ?_⟩, ⟨?_, ?_⟩, ?_, ?_, ?_⟩ <;> first | (dsimp only; omega) | exact (fun q hq => absurd hq (List.not_mem_nil)) | exact Nat.zero_le _ | exact (by assumption : _ ∧ _).2 | exact msgE (by assumption) | exact (fun q hq => by rcases List.mem_append.1 hq with hq | hq; exact msgE (by assumption) q hq; simp at hq; subst hq; dsimp only; first | omega | exact Nat.zero_le _) | (dsimp only; simp only [List.length_append, List.length_cons, List.length_nil, ByteArray.size_append]; omega) | (dsimp only; rw [ByteArray.size_append, show (⟨#[120]⟩ : ByteArray).size = 1 from rfl]; omega) | exact Nat.le_trans (opS_le _) (by dsimp only; omega) | exact Nat.le_trans (ansS_le _) (by dsimp only; omega)))
theorem crcBit_inj {c d : Nat} (hc : c < 4294967296) (hd : d < 4294967296) (h : crcBit c = crcBit d) : c = d := by
  have hP : (2197175160 : Nat).testBit 31 = true := by decide
  have hlo : ∀ x : Nat, x < 4294967296 → (x / 2).testBit 31 = false := fun x hx => Nat.testBit_lt_two_pow (by omega)
  unfold crcBit at h
  split at h <;> split at h
  · have : c / 2 = d / 2 := by
      have e := congrArg (· ^^^ 2197175160) h
      simpa [Nat.xor_assoc] using e
    omega
  · have e := congrArg (Nat.testBit · 31) h
    simp only [Nat.testBit_xor, hlo c hc, hlo d hd, hP] at e
    simp at e
  · have e := congrArg (Nat.testBit · 31) h
    simp only [Nat.testBit_xor, hlo c hc, hlo d hd, hP] at e
    simp at e
  · omega
theorem crcBits_inj : ∀ (k : Nat) {c d : Nat}, c < 4294967296 → d < 4294967296 → crcBits k c = crcBits k d → c = d
  | 0, _, _, _, _, h => h
  | k + 1, _, _, hc, hd, h => crcBit_inj hc hd (crcBits_inj k (crcBit_lt hc) (crcBit_lt hd) h)
theorem xor_inj {a b c : Nat} (h : a ^^^ b = a ^^^ c) : b = c := by
  have e := congrArg (a ^^^ ·) h
  simpa [← Nat.xor_assoc] using e
theorem xor_injL {a b c : Nat} (h : b ^^^ a = c ^^^ a) : b = c := by
  have e := congrArg (· ^^^ a) h
  simpa [Nat.xor_assoc] using e
theorem crcL_inj : ∀ (l : List Int) {c d : Nat}, isB l → c < 4294967296 → d < 4294967296 → crcL l c = crcL l d → c = d
  | [], _, _, _, _, _, h => h
  | b :: t, c, d, hl, hc, hd, h => by
    rw [isB_cons] at hl
    have h1 := crcL_inj t hl.2 (crcBits_lt 8 (xor_byte_lt hc hl.1)) (crcBits_lt 8 (xor_byte_lt hd hl.1)) h
    exact xor_injL (crcBits_inj 8 (xor_byte_lt hc hl.1) (xor_byte_lt hd hl.1) h1)
theorem crcL_app : ∀ (p q : List Int) (c : Nat), crcL (p ++ q) c = crcL q (crcL p c)
  | [], _, _ => rfl
  | b :: t, q, c => crcL_app t q _
theorem crcL_turn {p q : List Int} {a b : Int} {c : Nat} (hp : isB p) (hq : isB q) (ha : 0 ≤ a ∧ a ≤ 255) (hb : 0 ≤ b ∧ b ≤ 255) (hc : c < 4294967296) (hne : a ≠ b) : crcL (p ++ a :: q) c ≠ crcL (p ++ b :: q) c := by
  intro h
  rw [crcL_app, crcL_app] at h
  have hl := crcL_lt p hp hc
  have h1 := crcL_inj q hq (crcBits_lt 8 (xor_byte_lt hl ha)) (crcBits_lt 8 (xor_byte_lt hl hb)) h
  have h2 := xor_inj (crcBits_inj 8 (xor_byte_lt hl ha) (xor_byte_lt hl hb) h1)
  omega
def turned (s : ByteArray) (k : Nat) (b : Int) : ByteArray := s.extract 0 k ++ strOfNums [b] ++ s.extract (k + 1) s.size
theorem turned_bytes {s : ByteArray} {k : Nat} {b : Int} (hb : 0 ≤ b ∧ b ≤ 255) : bytes (turned s k b) = (bytes s).take k ++ b :: (bytes s).drop (k + 1) := by
  have h1 : isB [b] := by rw [isB_cons]; exact ⟨hb, isB_nil⟩
  unfold turned
  rw [bytes_append, bytes_append, bytes_extract, bytes_extract, bytes_str h1, List.drop_zero, List.take_of_length_le (i := s.size) (by rw [bytes_length]; omega)]
  simp
theorem bytes_at {s : ByteArray} {k : Nat} (hk : k < s.size) : bytes s = (bytes s).take k ++ byteAt s k :: (bytes s).drop (k + 1) := by
  conv => lhs; rw [← List.take_append_drop k (bytes s)]
  rw [drop_byteAt hk]
theorem crcN_turn {s t : ByteArray} {p q : List Int} {a b : Int} (hs : bytes s = p ++ a :: q) (ht : bytes t = p ++ b :: q) (hne : a ≠ b) : crcN s ≠ crcN t := by
  have h1 := isB_bytes s
  have h2 := isB_bytes t
  rw [hs, isB_append, isB_cons] at h1
  rw [ht, isB_append, isB_cons] at h2
  have h3 := crcL_turn (c := 4294967295) h1.1 h1.2.2 h1.2.1 h2.2.1 (by omega) hne
  intro h
  unfold crcN at h
  rw [hs, ht] at h
  omega
theorem fix4_inj {a b : Int} (ha : 0 ≤ a ∧ a ≤ 4294967295) (hb : 0 ≤ b ∧ b ≤ 4294967295) (h : fixL 4 a.toNat = fixL 4 b.toNat) : a = b := by
  have h1 := rfN_fixL 4 a.toNat [] 0
  have h2 := rfN_fixL 4 b.toNat [] 0
  rw [h] at h1
  rw [h1] at h2
  have e1 : a.toNat % 256 ^ 4 = a.toNat := Nat.mod_eq_of_lt (by omega)
  have e2 : b.toNat % 256 ^ 4 = b.toNat := Nat.mod_eq_of_lt (by omega)
  rw [e1, e2] at h2
  omega
theorem msg_turned {s : ByteArray} {m : MsgV} (h : MsgAt s m) {k : Nat} {b : Int} (hk : k < s.size) (hb : 0 ≤ b ∧ b ≤ 255) (hne : b ≠ byteAt s k) : ∀ m', ¬MsgAt (turned s k b) m' := by
  intro m' h'
  have e1 := h.bytes4
  have e2 := h'.bytes4
  rw [turned_bytes hb] at e2
  have hat := bytes_at hk
  have hc1 := crcN_rng m.txt
  have hc2 := crcN_rng m'.txt
  have hlen : (bytes s).length = s.size := bytes_length s
  by_cases hk4 : k < 4
  · -- the sum itself is turned: the text behind it is the same
    have d1 := congrArg (List.drop 4) e1
    have d2 := congrArg (List.drop 4) e2
    rw [List.drop_left' (fixL_len 4 _)] at d1 d2
    have d3 : List.drop 4 ((bytes s).take k ++ b :: (bytes s).drop (k + 1)) = (bytes s).drop 4 := by
      rw [List.drop_append, List.drop_of_length_le (by rw [List.length_take]; omega), List.nil_append, List.length_take]
      rw [show 4 - min k (bytes s).length = (3 - k) + 1 by omega, List.drop_succ_cons, List.drop_drop]
      congr 1; omega
    rw [d3, d1] at d2
    have et : m.txt = m'.txt := str_inj d2
    rw [← et] at e2
    rw [← e1] at e2
    have e3 := List.append_cancel_left (e2.trans hat)
    injection e3 with e3 _
    exact hne e3
  · have t1 := congrArg (List.take 4) e1
    have t2 := congrArg (List.take 4) e2
    rw [List.take_left' (fixL_len 4 _)] at t1 t2
    rw [List.take_append_of_le_length (by rw [List.length_take]; omega), List.take_take, show min 4 k = 4 by omega, t1] at t2
    have hcc := fix4_inj hc1 hc2 t2
    have d1 := congrArg (List.drop 4) e1
    have d2 := congrArg (List.drop 4) e2
    rw [List.drop_left' (fixL_len 4 _)] at d1 d2
    rw [hat] at d1
    rw [List.drop_append_of_le_length (by rw [List.length_take]; omega)] at d1 d2
    exact crcN_turn d1.symm d2.symm (fun e => hne e.symm) hcc
theorem frame_turned {b : ByteArray} (h1 : 1 ≤ b.size) (h2 : b.size ≤ 2000) {k : Nat} {x : Int} (hk : 4 ≤ k) (hk2 : k < b.size + 8) (hx : 0 ≤ x ∧ x ≤ 255) (hne : x ≠ byteAt (frameS b) k) : (unfS (turned (frameS b) k x)).2 = (0, 2) := by
  have hs := frame_size h1 h2
  have hb := frame_bytes h1 h2
  have ht := turned_bytes (s := frameS b) (k := k) hx
  have hat := bytes_at (s := frameS b) (k := k) (by omega)
  have hz : (turned (frameS b) k x).size = b.size + 8 := by
    rw [← bytes_length, ht, List.length_append, List.length_take, List.length_cons, List.length_drop, bytes_length]; omega
  have hc := crcN_rng (fixS b.size 4 ++ b)
  have ht4 : (bytes (turned (frameS b) k x)).take 4 = fixL 4 b.size := by
    rw [ht, List.take_append_of_le_length (by rw [List.length_take, bytes_length]; omega), List.take_take, show min 4 k = 4 by omega, hb, List.take_left' (fixL_len 4 _)]
  have hr : rfx (turned (frameS b) k x) 4 = ((b.size : Int), true) := by
    unfold rfx
    rw [if_pos (by omega), ← List.take_append_drop 4 (bytes (turned (frameS b) k x)), ht4, show (4 : Int).toNat = 4 by rfl, rfN_fixL]
    simp only [Prod.mk.injEq, and_true]
    omega
  unfold unfS
  simp only [hr]
  rw [if_neg (by simp), if_neg (by omega), if_neg (by omega), if_neg]
  intro e
  have e2 := congrArg bytes e
  have hw : (turned (frameS b) k x).extract 0 ((b.size : Int) + 8).toNat = turned (frameS b) k x := by
    apply str_inj
    rw [bytes_extract, List.drop_zero, List.take_of_length_le (by rw [bytes_length]; omega)]
  rw [hw] at e2
  have hbz : ((turned (frameS b) k x).extract 8 ((b.size : Int) + 8).toNat).size = b.size := by
    rw [← bytes_length, bytes_extract, List.length_drop, List.length_take, bytes_length]; omega
  have hb8 : bytes ((turned (frameS b) k x).extract 8 ((b.size : Int) + 8).toNat) = (bytes (turned (frameS b) k x)).drop 8 := by
    rw [bytes_extract, List.take_of_length_le (by rw [bytes_length]; omega)]
  generalize hB : (turned (frameS b) k x).extract 8 ((b.size : Int) + 8).toNat = B at e2 hbz hb8
  rw [frame_bytes (by omega) (by omega), hbz] at e2
  have hc2 := crcN_rng (fixS b.size 4 ++ B)
  have f4 : bytes (fixS b.size 4) = fixL 4 b.size := by rw [fixS4_bytes (by omega) (by omega), Int.toNat_natCast]
  rw [ht] at e2 hb8
  have hfl : (bytes (frameS b)).length = b.size + 8 := by rw [bytes_length]; omega
  -- the part behind the length
  have d4 := congrArg (List.drop 4) e2
  rw [List.drop_left' (fixL_len 4 _), List.drop_append_of_le_length (by rw [List.length_take]; omega)] at d4
  have g4 := congrArg (List.drop 4) hb
  rw [List.drop_left' (fixL_len 4 _)] at g4
  by_cases hk8 : k < 8
  · have : bytes B = bytes b := by
      rw [hb8, List.drop_append, List.drop_of_length_le (by rw [List.length_take]; omega), List.nil_append, List.length_take]
      rw [show 8 - min k (bytes (frameS b)).length = (7 - k) + 1 by omega, List.drop_succ_cons, List.drop_drop, show k + 1 + (7 - k) = 8 by omega, hb, ← List.append_assoc,
        List.drop_left' (by simp [fixL_len])]
    have eB : B = b := str_inj this
    rw [eB, ← hb] at e2
    have e3 := List.append_cancel_left (hat.symm.trans e2)
    injection e3 with e3 _
    exact hne e3.symm
  · have t1 := congrArg (List.take 4) d4
    have t2 := congrArg (List.take 4) g4
    rw [List.take_left' (fixL_len 4 _)] at t1 t2
    rw [List.take_append_of_le_length (by rw [List.length_drop, List.length_take]; omega)] at t1
    have t3 : List.take 4 (List.drop 4 (List.take k (bytes (frameS b)))) = List.take 4 (List.drop 4 (bytes (frameS b))) := by
      rw [List.drop_take, List.take_take]; congr 1; omega
    rw [t3, t2] at t1
    have hcc := fix4_inj hc hc2 t1.symm
    have hbb : bytes b = (bytes (frameS b)).drop 8 := by rw [hb, ← List.append_assoc, List.drop_left' (by simp [fixL_len])]
    have k1 : bytes (fixS b.size 4 ++ b) = (fixL 4 b.size ++ ((bytes (frameS b)).take k).drop 8) ++ byteAt (frameS b) k :: (bytes (frameS b)).drop (k + 1) := by
      rw [bytes_append, f4, hbb]
      conv => lhs; rw [hat]
      rw [List.drop_append_of_le_length (by rw [List.length_take]; omega), List.append_assoc]
    have k2 : bytes (fixS b.size 4 ++ B) = (fixL 4 b.size ++ ((bytes (frameS b)).take k).drop 8) ++ x :: (bytes (frameS b)).drop (k + 1) := by
      rw [bytes_append, f4, hb8, List.drop_append_of_le_length (by rw [List.length_take]; omega), List.append_assoc]
    exact crcN_turn k1 k2 (fun e => hne e.symm) hcc
structure CmdV where
  c : Int
  s : Int
  o : OpV
def CmdV.zero : CmdV := ⟨0, 0, OpV.zero⟩
def CmdV.ok (x : CmdV) : Prop := (1 ≤ x.c ∧ x.c ≤ 4) ∧ (1 ≤ x.s ∧ x.s ≤ 1000000) ∧ x.o.okB = true
noncomputable instance (x : CmdV) : Decidable x.ok := by unfold CmdV.ok; infer_instance
noncomputable def cmdT (x : CmdV) : ByteArray := varS x.c ++ varS x.s ++ opS x.o
noncomputable def cmdS (x : CmdV) : ByteArray := if x.ok then cmdT x else ⟨#[]⟩
def rcmdR (s : ByteArray) : CmdV × Rd :=
  (⟨(rdNum ⟨s, true⟩).1, (rdNum (rdNum ⟨s, true⟩).2).1, (rdOp (rdNum (rdNum ⟨s, true⟩).2).2).1⟩, (rdOp (rdNum (rdNum ⟨s, true⟩).2).2).2)
open Classical in
noncomputable def rcmd (s : ByteArray) : CmdV × Bool := if (rcmdR s).2.ok = true ∧ cmdS (rcmdR s).1 = s then ((rcmdR s).1, true) else (CmdV.zero, false)
theorem cmdT_bytes {x : CmdV} (h : x.ok) : bytes (cmdT x) = varL x.c.toNat ++ (varL x.s.toNat ++ bytes (opS x.o)) := by
  obtain ⟨h1, h2, h3⟩ := h
  unfold cmdT
  rw [bytes_append, bytes_append, varS_ok (x := x.c) (by unfold okN; omega), varS_ok (x := x.s) (by unfold okN; omega), bytes_str (varL_isB _), bytes_str (varL_isB _)]
  simp only [List.append_assoc]
theorem rcmdR_of {x : CmdV} (h : x.ok) : (rcmdR (cmdT x)).1 = x ∧ (rcmdR (cmdT x)).2.ok = true := by
  obtain ⟨h1, h2, h3⟩ := id h
  obtain ⟨s1, a1, b1⟩ := rdNum_var (by unfold okN; omega) (cmdT_bytes h)
  obtain ⟨s2, a2, b2⟩ := rdNum_var (by unfold okN; omega) b1
  have e : s2 = opS x.o := str_inj b2
  have e2 : opS x.o = opT x.o := if_pos h3
  have hr := ropR_of (s := s2) (o := x.o) ⟨h3, e.trans e2⟩
  unfold rcmdR
  rw [a1]; simp only
  rw [a2]; simp only
  rw [rdOp_eq, hr.1]
  exact ⟨rfl, hr.2⟩
theorem cmdT_ne {x : CmdV} (h : x.ok) : cmdT x ≠ ⟨#[]⟩ := by
  intro e
  have h1 := congrArg List.length (cmdT_bytes h)
  rw [e, List.length_append] at h1
  have := varL_pos x.c.toNat
  have h2 : (bytes ⟨#[]⟩).length = 0 := rfl
  omega
theorem rdKind_bad {r : Rd} (h : r.ok = false) : (rdKind r).2.ok = false := by
  have h1 := rdBytes_bad (n := 1) h
  unfold rdKind
  first | exact h1 | (split <;> first | exact h1 | simp_all)
theorem rcmdR_nil : (rcmdR ⟨#[]⟩).2.ok = false := rdNum_badR (rdNum_badR (rdPiece_bad (rdKind_bad (rdNum_badR rdNum_nil))))
theorem rcmd_show (x : CmdV) : (x.ok ∧ cmdS x ≠ ⟨#[]⟩ ∧ rcmd (cmdS x) = (x, true)) ∨ (cmdS x = ⟨#[]⟩ ∧ rcmd (cmdS x) = (CmdV.zero, false)) := by
  by_cases h : x.ok
  · have e : cmdS x = cmdT x := if_pos h
    have hr := rcmdR_of h
    refine .inl ⟨h, e ▸ cmdT_ne h, ?_⟩
    unfold rcmd
    rw [e, hr.1, if_pos ⟨hr.2, e⟩]
  · have e : cmdS x = ⟨#[]⟩ := if_neg h
    refine .inr ⟨e, ?_⟩
    unfold rcmd
    rw [e, if_neg]
    rintro ⟨h1, _⟩
    rw [rcmdR_nil] at h1
    simp at h1
theorem rans_show (a : AnsV) : (a.okB = true ∧ rans (ansS a) = (a, true)) ∨ (a.okB = false ∧ rans (ansS a) = (AnsV.zero, false)) := by
  cases h : a.okB with
  | true =>
    have ha : AnsAt (ansS a) a := ⟨h, if_pos h⟩
    rcases rans_cases (ansS a) with ⟨o, ho, e⟩ | ⟨hn, _⟩
    · rw [e, ho.uniq ha]; exact .inl ⟨rfl, rfl⟩
    · exact absurd ha (hn a)
  | false =>
    refine .inr ⟨rfl, ?_⟩
    have e : ansS a = ⟨#[]⟩ := if_neg (by rw [h]; simp)
    rw [e, ransI_eq, if_neg]
    rintro ⟨h1, _⟩
    rw [show (ransR ⟨#[]⟩).2.ok = false from rdNum_badR (rdNum_badR rdNum_nil)] at h1
    simp at h1
theorem rmsg_read (s : ByteArray) (h : (rmsg s).2 = true) : (rmsg s).1.show = s ∧ (rmsg s).1.okB = true := by
  rcases rmsg_cases s with ⟨m, hm, e⟩ | ⟨_, e⟩
  · rw [e]; exact ⟨show_of hm, hm.1⟩
  · rw [e] at h; simp at h
theorem rmsg_show (m : MsgV) : (m.okB = true ∧ rmsg m.show = (m, true)) ∨ (m.okB = false ∧ rmsg m.show = (MsgV.zero, false)) := by
  cases h : m.okB with
  | true =>
    have hm : MsgAt m.show m := ⟨h, by unfold MsgV.show showM; rw [if_pos (show msgB _ _ _ _ _ _ _ _ _ _ = true from h)]; rfl⟩
    rcases rmsg_cases m.show with ⟨o, ho, e⟩ | ⟨hn, _⟩
    · rw [e, ho.uniq hm]; exact .inl ⟨rfl, rfl⟩
    · exact absurd hm (hn m)
  | false =>
    refine .inr ⟨rfl, ?_⟩
    have e : m.show = ⟨#[]⟩ := by unfold MsgV.show showM; rw [if_neg (by rw [show msgB m.k m.fr m.to m.tm m.ix m.it m.cm m.y m.e m.d = m.okB from rfl, h]; simp)]
    rcases rmsg_cases m.show with ⟨o, ho, e2⟩ | ⟨_, e2⟩
    · have := ho.size4
      rw [e] at this
      exact absurd this (by decide)
    · exact e2
theorem ofInt_small {a : Int} (h : 0 ≤ a) (h2 : a ≤ 255) : (BitVec.ofInt 64 a).toNat = a.toNat := by
  rw [BitVec.toNat_ofInt]; omega
theorem xor_turn {a c : Int} (ha : 0 ≤ a ∧ a ≤ 255) (hc : 1 ≤ c ∧ c ≤ 255) : 0 ≤ bits .xor .i64 a c ∧ bits .xor .i64 a c ≤ 255 ∧ bits .xor .i64 a c ≠ a := by
  show 0 ≤ IntKind.i64.wrap ((BitVec.ofInt 64 a ^^^ BitVec.ofInt 64 c).toNat : Int) ∧ IntKind.i64.wrap ((BitVec.ofInt 64 a ^^^ BitVec.ofInt 64 c).toNat : Int) ≤ 255 ∧ IntKind.i64.wrap ((BitVec.ofInt 64 a ^^^ BitVec.ofInt 64 c).toNat : Int) ≠ a
  rw [BitVec.toNat_xor, ofInt_small ha.1 ha.2, ofInt_small (by omega) hc.2]
  have hlt : a.toNat ^^^ c.toNat < 2 ^ 8 := Nat.xor_lt_two_pow (by omega) (by omega)
  have hne : a.toNat ^^^ c.toNat ≠ a.toNat := fun h => by
    have := xor_inj (a := a.toNat) (b := c.toNat) (c := 0) (by rw [h, Nat.xor_zero])
    omega
  rw [IntKind.wrap_i64]
  omega
theorem ysz {x : ByteArray} : ((⟨#[121]⟩ : ByteArray) ++ x).size = x.size + 1 := by
  rw [ByteArray.size_append, show (⟨#[121]⟩ : ByteArray).size = 1 from rfl]; omega
theorem fsz {x : ByteArray} (h : x.size ≤ 40) : (frameS (⟨#[121]⟩ ++ x)).size = x.size + 9 := by
  rw [frame_size (by rw [ysz]; omega) (by rw [ysz]; omega), ysz]
def xb (s : ByteArray) (k : Nat) (c : Int) : Int := bits .xor .i64 (byteAt s k) c
theorem xb_rng {s : ByteArray} {k : Nat} {c : Int} (hc : 1 ≤ c ∧ c ≤ 255) : (0 ≤ xb s k c ∧ xb s k c ≤ 255) ∧ xb s k c ≠ byteAt s k := by
  have h := xor_turn (byteAt_rng s k) hc
  exact ⟨⟨h.1, h.2.1⟩, h.2.2⟩
theorem xbW {s : ByteArray} {k : Nat} {c : Int} (h1 : 1 ≤ c) (h2 : c ≤ 255) : IntKind.u8.wrap (bits .xor .i64 (byteAt s k) c) = xb s k c := by
  have h := xb_rng (s := s) (k := k) ⟨h1, h2⟩
  exact wB h.1.1 h.1.2
def atF (b : List Int) (i : Int) : Int := if i < b.length then IntKind.i64.wrap (b.getD i.toNat 0) else (i * 37 + b.length * 11).tmod 256
theorem atF_rng {b : List Int} {i : Int} (hb : isB b) (h0 : 0 ≤ i) : 0 ≤ atF b i ∧ atF b i ≤ 255 := by
  unfold atF
  split
  · have h := hb _ (getDm 0 (show i.toNat < b.length by omega))
    rw [wI (by omega) (by omega)]; exact h
  · rw [Int.tmod_eq_emod_of_nonneg (by omega)]; omega
theorem showM_le {k fr to tm ix it cm : Int} {y : Bool} {e : List EV} {d : ByteArray} (h1 : ∀ p ∈ e, p.2.size ≤ 900) : (showM k fr to tm ix it cm y e d).size ≤ 914 * e.length + d.size + 100 := by
  unfold showM
  split
  · have a := fixS_le (crcN (msgT k fr to tm ix it cm y e d)) 4
    have b := entF_le e (numsT (msgN k fr to tm ix it cm y e)) h1
    have c := numsT_sz (msgN k fr to tm ix it cm y e)
    have hl : (msgN k fr to tm ix it cm y e).length = 9 := rfl
    rw [ByteArray.size_append]
    unfold msgT at a ⊢
    rw [ByteArray.size_append]
    omega
  · exact Nat.zero_le _
theorem turn_eq {s : ByteArray} {k c : Int} {z : Nat} (hk : 0 ≤ k) (hc : 0 ≤ c ∧ c ≤ 255) (hz : z = s.size) :
    s.extract 0 k.toNat ++ strOfNums [IntKind.u8.wrap (bits .xor .i64 (IntKind.i64.wrap (byteAt s k.toNat)) (IntKind.i64.wrap (1 + c.tmod 255)))] ++ s.extract (k + 1).toNat z = turned s k.toNat (xb s k.toNat (1 + c.tmod 255)) ∧ (1 ≤ 1 + c.tmod 255 ∧ 1 + c.tmod 255 ≤ 255) := by
  have h1 := byteAt_rng s k.toNat
  have h2 := tmod_rng hc.1 (show (0 : Int) < 255 by omega)
  refine ⟨?_, by omega, by omega⟩
  rw [wI (x := byteAt s k.toNat) (by omega) (by omega), wI (x := 1 + c.tmod 255) (by omega) (by omega), xbW (by omega) (by omega), hz, show (k + 1).toNat = k.toNat + 1 by omega]
  rfl
theorem turned_frame {x : ByteArray} {k c : Int} (hx : x.size ≤ 40) (hk : 0 ≤ k ∧ k < ((x.size + 9 : Nat) : Int) - 4) (hc : 0 ≤ c ∧ c ≤ 255) :
    (unfS ((frameS (⟨#[121]⟩ ++ x)).extract 0 (4 + k).toNat ++ strOfNums [IntKind.u8.wrap (bits .xor .i64 (IntKind.i64.wrap (byteAt (frameS (⟨#[121]⟩ ++ x)) (4 + k).toNat)) (IntKind.i64.wrap (1 + c.tmod 255)))] ++ (frameS (⟨#[121]⟩ ++ x)).extract (4 + k + 1).toNat (x.size + 9))).2 = (0, 2) := by
  obtain ⟨e, hr⟩ := turn_eq (s := frameS (⟨#[121]⟩ ++ x)) (k := 4 + k) (c := c) (z := x.size + 9) (by omega) hc (fsz hx).symm
  rw [e]
  have h := xb_rng (s := frameS (⟨#[121]⟩ ++ x)) (k := (4 + k).toNat) hr
  exact frame_turned (by rw [ysz]; omega) (by rw [ysz]; omega) (by omega) (by rw [ysz]; omega) h.1 h.2
theorem turned_msg {m : MsgV} {k c : Int} (hm : m.show ≠ ⟨#[]⟩) (hk : 0 ≤ k ∧ k < m.show.size) (hc : 0 ≤ c ∧ c ≤ 255) :
    (rmsg (m.show.extract 0 k.toNat ++ strOfNums [IntKind.u8.wrap (bits .xor .i64 (IntKind.i64.wrap (byteAt m.show k.toNat)) (IntKind.i64.wrap (1 + c.tmod 255)))] ++ m.show.extract (k + 1).toNat m.show.size)).2 = false := by
  obtain ⟨e, hr⟩ := turn_eq (s := m.show) (k := k) (c := c) (z := m.show.size) hk.1 hc rfl
  rw [e]
  have h := xb_rng (s := m.show) (k := k.toNat) hr
  have hn := msg_turned (show_at rfl hm) (show k.toNat < m.show.size by omega) h.1 h.2
  rcases rmsg_cases (turned m.show k.toNat (xb m.show k.toNat (1 + c.tmod 255))) with ⟨m', hm', _⟩ | ⟨_, e2⟩
  · exact absurd hm' (hn m')
  · rw [e2]
theorem show_bad {m : MsgV} (h : m.show = ⟨#[]⟩) : m.okB = false := by
  rcases rmsg_show m with ⟨h1, h2⟩ | ⟨h1, _⟩
  · rw [h] at h2
    rcases rmsg_cases (⟨#[]⟩ : ByteArray) with ⟨o, ho, _⟩ | ⟨_, e2⟩
    · exact absurd ho.size4 (by decide)
    · rw [e2] at h2; injection h2 with _ h3; simp at h3
  · exact h1
attribute [push_cast] ByteArray.size_extract
instance g29 (c s k : Int) (key : ByteArray) (f t : Int) (d : ByteArray) : Fs 29 [⟨.agg, [.int .i64 c, .int .i64 s, .int .i64 k, .str key, .int .i64 f, .int .i64 t, .str d]⟩] (key.size ≤ 1152921504606 ∧ d.size ≤ 1152921504606) (st1 (cmdS ⟨c, s, ⟨k, key, f, t, d⟩⟩)) := by
  refine F_of m29 rfl fun hyp => ?_
  have z1 := varS_le c
  have z2 := varS_le s
  have z3 := opS_le ⟨k, key, f, t, d⟩
  simp only at z3
  repeat' (first | (with_reducible intro h; (try simp only [h]); (try simp only [HS] at h)) | ((with_reducible apply scEnd_of); exact rfl; exact rfl) | ((with_reducible apply ScW_of); rfl; rfl; trivial) | with_reducible first | apply Br_of | refine O1 ?_ | refine O2 ?_ | refine O3 ?_ | refine O4 ?_ | refine O5 ?_ | refine CI ?_ | refine CJ ?_ | refine CQp ?_ | refine CQ ?_ | simp (maxSteps := 1000000) (disch := omega) only [go_sem])
  all_goals (try (exfalso; omega))
  · rw [show cmdS ⟨c, s, ⟨k, key, f, t, d⟩⟩ = ⟨#[]⟩ from if_neg (fun hk => by
        obtain ⟨⟨q1, q2⟩, ⟨q3, q4⟩, q5⟩ := hk
        have q1 : 1 ≤ c := q1
        have q2 : c ≤ 4 := q2
        have q3 : 1 ≤ s := q3
        have q4 : s ≤ 1000000 := q4
        rw [show opB k key f t d = true from q5] at h
        simp only [Bool.true_eq_false, or_false] at h
        omega)]
  · rw [show cmdS ⟨c, s, ⟨k, key, f, t, d⟩⟩ = cmdT ⟨c, s, ⟨k, key, f, t, d⟩⟩ from if_pos ⟨h.1.1, h.1.2, h.2⟩]; rfl
instance g30 (s : ByteArray) : Fs 30 [st1 s] (s.size ≤ 1152921504606) (⟨.tup [(true, 7), (false, 1)], [.int .i64 (rcmd s).1.c, .int .i64 (rcmd s).1.s, .int .i64 (rcmd s).1.o.k, .str (rcmd s).1.o.key, .int .i64 (rcmd s).1.o.f, .int .i64 (rcmd s).1.o.t, .str (rcmd s).1.o.d, .bool (rcmd s).2]⟩) := by
  refine F_of m30 rfl fun hyp => ?_
  have z1 := rdNum_size ⟨s, true⟩
  have z2 := rdNum_size (rdNum ⟨s, true⟩).2
  have z3 := rdOp_size (rdNum (rdNum ⟨s, true⟩).2).2
  simp only at z1 z2 z3
  repeat' (first | (with_reducible intro h; (try simp only [h]); (try simp only [HS] at h)) | ((with_reducible apply scEnd_of); exact rfl; exact rfl) | ((with_reducible apply ScW_of); rfl; rfl; trivial) | with_reducible first | apply Br_of | refine O1 ?_ | refine O2 ?_ | refine O3 ?_ | refine O4 ?_ | refine O5 ?_ | refine CI ?_ | refine CJ ?_ | refine CQp ?_ | refine CQ ?_ | simp (maxSteps := 1000000) (disch := omega) only [go_sem, Rd_eta])
  all_goals (try (exfalso; omega))
  all_goals first | (rw [rcmd, if_neg]; rfl; rintro ⟨a, b⟩; rcases h with h | h; rw [show (rcmdR s).2.ok = _ from h] at a; simp at a; exact h b) | (rw [rcmd, if_pos (show (rcmdR s).2.ok = true ∧ cmdS (rcmdR s).1 = s from h)]; rfl)
instance g96 (b : List Int) (u : Value) (c : Cu b.length)  : FcR Tryz.prog 96 [⟨.one, [.ptr 1000000 0]⟩] [(1000000, [.rov u 1 (rowsB b), .int .i64 c.i, .int .i64 c.h])] (b.length ≤ 1048576) (CmdV × Cu b.length) (fun p => p.1.o.key.size ≤ 1000 ∧ p.1.o.d.size ≤ 2000) (fun p => ⟨.agg, [.int .i64 p.1.c, .int .i64 p.1.s, .int .i64 p.1.o.k, .str p.1.o.key, .int .i64 p.1.o.f, .int .i64 p.1.o.t, .str p.1.o.d]⟩) (fun p => [⟨.one, [.ptr 1000000 0]⟩]) (fun p => [(1000000, [.rov u 1 (rowsB b), .int .i64 p.2.i, .int .i64 p.2.h])]) := by
  refine FR_of m96 rfl fun hyp => ?_
  repeat' (first | (with_reducible intro h; (try simp only [h]); (try simp only [HS] at h)) | ((with_reducible apply scEnd_of); exact rfl; exact rfl) | ((with_reducible apply ScW_of); rfl; rfl; trivial) | with_reducible first | apply Br_of | refine O1 ?_ | refine O2 ?_ | refine O3 ?_ | refine O4 ?_ | refine O5 ?_ | refine CI ?_ | refine CJ ?_ | refine CQp ?_ | refine CQ ?_ | simp (maxSteps := 1000000) (disch := omega) only [go_sem])
  all_goals (try (exfalso; omega))
  all_goals first | (apply FinR_p (x := (⟨_, _, ⟨_, _, _, _, _⟩⟩ : CmdV)); (first | with_reducible rfl | rfl); rfl; rfl; (refine ⟨?_, ?_⟩ <;> first | (dsimp only; omega) | (dsimp only; exact (by assumption : _ ∧ _).1) | (dsimp only; exact (by assumption : _ ∧ _).2)))
instance g28 (b : List Int) : FcR Tryz.prog 28 [⟨.one, [.ro 1 (rowsB b)]⟩] [] (b.length ≤ 1048576) (CmdV) (fun p => p.o.key.size ≤ 1000 ∧ p.o.d.size ≤ 2000) (fun p => ⟨.agg, [.int .i64 p.c, .int .i64 p.s, .int .i64 p.o.k, .str p.o.key, .int .i64 p.o.f, .int .i64 p.o.t, .str p.o.d]⟩) (fun p => [⟨.one, [.ro 1 (rowsB b)]⟩]) (fun p => []) := by
  refine FR_of m28 rfl fun hyp => ?_
  repeat' (first | (with_reducible intro h; (try simp only [h]); (try simp only [HS] at h)) | ((with_reducible apply scEnd_of); exact rfl; exact rfl) | ((with_reducible apply ScW_of); rfl; rfl; trivial) | with_reducible first | apply Br_of | refine O1 ?_ | refine O2 ?_ | refine O3 ?_ | refine O4 ?_ | refine O5 ?_ | refine CI ?_ | refine CJ ?_ | refine CQ_op ?_ | refine CQ_ans ?_ | refine CQ_msg ?_ | refine CQp ?_ | refine CQ ?_ | refine CN ?_ | simp (maxSteps := 1000000) (disch := omega) only [go_sem])
  all_goals (try (exfalso; omega))
  all_goals first | (apply FinR_1; (first | with_reducible rfl | rfl); rfl; rfl; (assumption))
instance g31 (b : List Int) : FcR Tryz.prog 31 [⟨.one, [.ro 1 (rowsB b)]⟩] [] (b.length ≤ 1048576) (AnsV) (fun p => p.d.size ≤ 2000) (fun p => ⟨.agg, [.int .i64 p.c, .int .i64 p.i, .int .i64 p.m, .str p.d]⟩) (fun p => [⟨.one, [.ro 1 (rowsB b)]⟩]) (fun p => []) := by
  refine FR_of m31 rfl fun hyp => ?_
  repeat' (first | (with_reducible intro h; (try simp only [h]); (try simp only [HS] at h)) | ((with_reducible apply scEnd_of); exact rfl; exact rfl) | ((with_reducible apply ScW_of); rfl; rfl; trivial) | with_reducible first | apply Br_of | refine O1 ?_ | refine O2 ?_ | refine O3 ?_ | refine O4 ?_ | refine O5 ?_ | refine CI ?_ | refine CJ ?_ | refine CQ_op ?_ | refine CQ_ans ?_ | refine CQ_msg ?_ | refine CQp ?_ | refine CQ ?_ | refine CN ?_ | simp (maxSteps := 1000000) (disch := omega) only [go_sem])
  all_goals (try (exfalso; omega))
  all_goals (apply FinR_1 (x := (⟨_, _, _, _⟩ : AnsV)); (first | with_reducible rfl | rfl); rfl; rfl; (dsimp only; omega))
attribute [push_cast] ByteArray.size_extract
instance g35 (b : List Int) : FcR Tryz.prog 35 [⟨.one, [.ro 1 (rowsB b)]⟩] [] (b.length ≤ 1048576) (ByteArray) (fun p => p.size ≤ 200000) (fun p => st1 p) (fun p => [⟨.one, [.ro 1 (rowsB b)]⟩]) (fun p => []) := by
  refine FR_of m35 rfl fun hyp => ?_
  repeat' (first | (with_reducible intro h; (try simp only [h]); (try simp only [HS] at h)) | ((with_reducible apply scEnd_of); exact rfl; exact rfl) | ((with_reducible apply ScW_of); rfl; rfl; trivial) | with_reducible first | apply Br_of | refine O1 ?_ | refine O2 ?_ | refine O3 ?_ | refine O4 ?_ | refine O5 ?_ | refine CI ?_ | refine CJ ?_ | refine CQ_op ?_ | refine CQ_ans ?_ | refine CQ_msg ?_ | refine CQp ?_ | refine CQ ?_ | refine CN ?_ | simp (maxSteps := 1000000) (disch := omega) only [go_sem])
  all_goals (try (exfalso; omega))
  rename_i k0 fr to tm ix it cm y e d c1
  have h0 := h
  obtain ⟨⟨f1, f2⟩, ⟨t1, t2⟩, e1, e2, d1⟩ := h0
  have e3 : ∀ p ∈ e, p.2.size ≤ 9223372036854775807 := fun p hp => Nat.le_trans (e2 p hp) (by decide)
  have hs := showM_le (k := k0) (fr := fr) (to := to) (tm := tm) (ix := ix) (it := it) (cm := cm) (y := y) (e := e) (d := d) (fun p hp => Nat.le_trans (e2 p hp) (by decide))
  have fx := fun x => fixS_le x 4
  have hxe := extract_le (showM k0 fr to tm ix it cm y e d) 4 (showM k0 fr to tm ix it cm y e d).size
  repeat' (first | (with_reducible intro h; (try simp only [h]); (try simp only [HS] at h)) | ((with_reducible apply scEnd_of); exact rfl; exact rfl) | ((with_reducible apply scEndE_of); exact rfl; exact rfl; trivial) | ((with_reducible apply scEndD_of); exact rfl; trivial) | (with_reducible apply ScW_ofE) | with_reducible first | apply Br_of | refine O1 ?_ | refine O2 ?_ | refine O3 ?_ | refine O4 ?_ | refine O5 ?_ | refine CI ?_ | refine CJ ?_ | refine CQp ?_ | refine CQ ?_ | simp (maxSteps := 1000000) (disch := omega) only [go_sem])
  all_goals (try (exfalso; omega))
  all_goals first | (apply FinR_1; (first | with_reducible rfl | rfl); rfl; rfl; (omega)) | skip
  rename_i s3 c3
  have hq := crcN_rng s3
  have hf := fixS_le (crcN s3) 4
  repeat' (first | (with_reducible intro h; (try simp only [h]); (try simp only [HS] at h)) | ((with_reducible apply scEnd_of); exact rfl; exact rfl) | ((with_reducible apply ScW_of); rfl; rfl; trivial) | with_reducible first | apply Br_of | refine O1 ?_ | refine O2 ?_ | refine O3 ?_ | refine O4 ?_ | refine O5 ?_ | refine CI ?_ | refine CJ ?_ | refine CQp ?_ | refine CQ ?_ | simp (maxSteps := 1000000) (disch := omega) only [go_sem])
  all_goals (try (exfalso; omega))
  all_goals first | (apply FinR_1; (first | with_reducible rfl | rfl); rfl; rfl; ((simp only [ByteArray.size_append]; omega)))
instance g36 (l m : List EV) : Fs 36 [⟨.one, [.ro 2 (rowsE l)]⟩, ⟨.one, [.ro 2 (rowsE m)]⟩] (l.length ≤ 1048576) (bl (eqE l m)) := by
  refine F_of m36 rfl fun hyp => ?_
  repeat' (first | (with_reducible intro h; (try simp only [h]); (try simp only [HS] at h)) | ((with_reducible apply scEnd_of); exact rfl; exact rfl) | ((with_reducible apply ScW_of); rfl; rfl; trivial) | with_reducible first | apply Br_of | refine O1 ?_ | refine O2 ?_ | refine O3 ?_ | refine O4 ?_ | refine O5 ?_ | refine CI ?_ | refine CJ ?_ | refine CQp ?_ | refine CQ ?_ | simp (maxSteps := 1000000) (disch := omega) only [go_sem])
  · rw [eqE, decide_eq_false]; rintro rfl; omega
  · refine LoopK_of (α := Nat) (fun p => ⟨[(5, i64 p), (1, ⟨.one, [.ro 2 (rowsE m)]⟩), (0, ⟨.one, [.ro 2 (rowsE l)]⟩)], [], [(0, ⟨.one, [.ro 2 (rowsE l)]⟩), (1, ⟨.one, [.ro 2 (rowsE m)]⟩)]⟩) (fun p => p ≤ l.length ∧ l.take p = m.take p) (fun p => l.length - p) 0 rfl ⟨Nat.zero_le _, by simp⟩ ?_
    rintro i ⟨h1, h2⟩
    repeat' (first | (with_reducible intro h; (try simp only [h]); (try simp only [HS] at h)) | ((with_reducible apply scEnd_of); exact rfl; exact rfl) | ((with_reducible apply ScW_of); rfl; rfl; trivial) | with_reducible first | apply Br_of | refine O1 ?_ | refine O2 ?_ | refine O3 ?_ | refine O4 ?_ | refine O5 ?_ | refine CI ?_ | refine CJ ?_ | refine CQp ?_ | refine CQ ?_ | simp (maxSteps := 1000000) (disch := omega) only [go_sem])
    · rw [eqE, decide_eq_false]; rintro rfl; rcases h with h | h <;> exact h rfl
    · refine LoopQ_of (i + 1) rfl ⟨by omega, ?_⟩ (by omega)
      rw [take_snocZ eZ (by omega), take_snocZ eZ (by omega), h2]
      congr 2
      exact Prod.ext h.1 h.2
    · rw [List.take_of_length_le (by omega), List.take_of_length_le (by omega)] at h2
      rw [eqE, decide_eq_true h2]
theorem cmdS_le (x : CmdV) : (cmdS x).size ≤ x.o.key.size + x.o.d.size + 60 := by
  unfold cmdS
  split
  · have h1 := varS_le x.c
    have h2 := varS_le x.s
    have h3 := opS_le x.o
    unfold cmdT
    simp only [ByteArray.size_append]
    omega
  · exact Nat.zero_le _
theorem rmsg_small (s : ByteArray) : ((-9223372036854775808 ≤ (rmsg s).1.fr ∧ (rmsg s).1.fr ≤ 9223372036854775807) ∧ (-9223372036854775808 ≤ (rmsg s).1.to ∧ (rmsg s).1.to ≤ 9223372036854775807)) ∧ ((rmsg s).1.e.length ≤ 1048576 ∧ (rmsg s).1.d.size ≤ s.size) ∧ (∀ p ∈ (rmsg s).1.e, p.2.size ≤ 9223372036854775807) := by
  rcases rmsg_cases s with ⟨m, hm, e⟩ | ⟨_, e⟩
  · rw [e]
    obtain ⟨_, h2, h3, _, _, _, _, h8, h9⟩ := okB_small hm.1
    have hz : m.d.size ≤ s.size := by
      have e2 := congrArg ByteArray.size hm.2
      rw [ByteArray.size_append, show m.txt = msgT m.k m.fr m.to m.tm m.ix m.it m.cm m.y m.e m.d from rfl] at e2
      unfold msgT at e2
      simp only [ByteArray.size_append] at e2
      omega
    exact ⟨⟨by dsimp only; omega, by dsimp only; omega⟩, ⟨by dsimp only; omega, hz⟩, fun p hp => Nat.le_trans (h9 p hp).2 (by decide)⟩
  · rw [e]
    exact ⟨⟨by decide, by decide⟩, ⟨by decide, Nat.zero_le _⟩, fun p hp => absurd hp (List.not_mem_nil)⟩
theorem rmsg_two (tt : ByteArray) : ((rmsg tt).2 = true ∧ showM (rmsg tt).1.k (rmsg tt).1.fr (rmsg tt).1.to (rmsg tt).1.tm (rmsg tt).1.ix (rmsg tt).1.it (rmsg tt).1.cm (rmsg tt).1.y (rmsg tt).1.e (rmsg tt).1.d = tt ∧ msgB (rmsg tt).1.k (rmsg tt).1.fr (rmsg tt).1.to (rmsg tt).1.tm (rmsg tt).1.ix (rmsg tt).1.it (rmsg tt).1.cm (rmsg tt).1.y (rmsg tt).1.e (rmsg tt).1.d = true) ∨ ((rmsg tt).2 = false ∧ True ∧ True) := by
  cases hg : (rmsg tt).2 with
  | true => exact .inl ⟨rfl, rmsg_read tt hg⟩
  | false => exact .inr ⟨rfl, trivial, trivial⟩
@[simp] theorem eqE_self (e : List EV) : eqE e e = true := decide_eq_true rfl
instance g5 (b : List Int) : Fs 5 [⟨.one, [.ro 1 (rowsB b)]⟩] (b.length ≤ 9223372036854775807 ∧ isB b) (bl true) := by
  refine F_of m5 rfl fun hyp => ?_
  by_cases hz : (b.length : Int) ≤ 1048576
  · repeat' (first | (with_reducible intro h; (try simp only [h]); (try simp only [HS] at h)) | ((with_reducible apply scEnd_of); exact rfl; exact rfl) | ((with_reducible apply ScW_of); rfl; rfl; trivial) | with_reducible first | apply Br_of | refine O1 ?_ | refine O2 ?_ | refine O3 ?_ | refine O4 ?_ | refine O5 ?_ | refine CI ?_ | refine CJ ?_ | refine CR_op ?_ | refine CR_ans ?_ | refine CR_msg ?_ | refine CQ_op ?_ | refine CQ_ans ?_ | refine CQ_msg ?_ | refine CQp ?_ | refine CQ ?_ | simp (maxSteps := 1000000) (disch := omega) only [go_sem])
    rename_i x
    have hx := h
    obtain ⟨c, s, ⟨k, key, f, t, d⟩⟩ := x
    simp only at hx
    have hc := cmdS_le (⟨c, s, ⟨k, key, f, t, d⟩⟩ : CmdV)
    simp only at hc
    rcases rcmd_show (⟨c, s, ⟨k, key, f, t, d⟩⟩ : CmdV) with ⟨_, hne, he⟩ | ⟨hne, he⟩ <;> try rw [hne] at he
    all_goals repeat' (first | (with_reducible intro h; (try simp only [h]); (try simp only [HS] at h)) | ((with_reducible apply scEnd_of); exact rfl; exact rfl) | ((with_reducible apply ScW_of); rfl; rfl; trivial) | with_reducible first | apply Br_of | refine O1 ?_ | refine O2 ?_ | refine O3 ?_ | refine O4 ?_ | refine O5 ?_ | refine CI ?_ | refine CJ ?_ | refine CR_op ?_ | refine CR_ans ?_ | refine CR_msg ?_ | refine CQ_op ?_ | refine CQ_ans ?_ | refine CQ_msg ?_ | refine CQp ?_ | refine CQ ?_ | simp (maxSteps := 1000000) (disch := omega) only [go_sem, he, hne, bne_self_eq_false])
    all_goals rename_i c2 i2 m2 d2
    all_goals have ha := ansS_le (⟨c2, i2, m2, d2⟩ : AnsV)
    all_goals simp only at ha
    all_goals rcases rans_show (⟨c2, i2, m2, d2⟩ : AnsV) with ⟨hb, hr⟩ | ⟨hb, hr⟩
    all_goals replace hb := show ansB c2 i2 m2 d2 = _ from hb
    all_goals repeat' (first | (with_reducible intro h; (try simp only [h]); (try simp only [HS] at h)) | ((with_reducible apply scEnd_of); exact rfl; exact rfl) | ((with_reducible apply ScW_of); rfl; rfl; trivial) | with_reducible first | apply Br_of | refine O1 ?_ | refine O2 ?_ | refine O3 ?_ | refine O4 ?_ | refine O5 ?_ | refine CI ?_ | refine CJ ?_ | refine CR_op ?_ | refine CR_ans ?_ | refine CR_msg ?_ | refine CQ_op ?_ | refine CQ_ans ?_ | refine CQ_msg ?_ | refine CQp ?_ | refine CQ ?_ | simp (maxSteps := 1000000) (disch := omega) only [go_sem, hr, hb, he, hne, bne_self_eq_false])
    all_goals rename_i tt ht k0 fr to tm ix it cm y e d
    all_goals have h0 := h
    all_goals obtain ⟨⟨f1, f2⟩, ⟨t1, t2⟩, e1, e2, d1⟩ := h0
    all_goals have e3 : ∀ p ∈ e, p.2.size ≤ 9223372036854775807 := fun p hp => Nat.le_trans (e2 p hp) (by decide)
    all_goals have hs := showM_le (k := k0) (fr := fr) (to := to) (tm := tm) (ix := ix) (it := it) (cm := cm) (y := y) (e := e) (d := d) (fun p hp => Nat.le_trans (e2 p hp) (by decide))
    all_goals obtain ⟨⟨⟨g1, g2⟩, g3, g4⟩, ⟨g5, g6⟩, g7⟩ := rmsg_small tt
    all_goals rcases rmsg_two tt with ⟨hg, hu, hv⟩ | ⟨hg, hu, hv⟩
    all_goals rcases rmsg_show (⟨k0, fr, to, tm, ix, it, cm, y, e, d⟩ : MsgV) with ⟨hb2, hr2⟩ | ⟨hb2, hr2⟩
    all_goals replace hb2 := show msgB k0 fr to tm ix it cm y e d = _ from hb2
    all_goals replace hr2 := show rmsg (showM k0 fr to tm ix it cm y e d) = _ from hr2
    all_goals first | repeat' (first | (with_reducible intro h; (try simp only [h]); (try simp only [HS] at h)) | ((with_reducible apply scEnd_of); exact rfl; exact rfl) | ((with_reducible apply ScW_of); rfl; rfl; trivial) | with_reducible first | apply Br_of | refine O1 ?_ | refine O2 ?_ | refine O3 ?_ | refine O4 ?_ | refine O5 ?_ | refine CI ?_ | refine CJ ?_ | refine CR_op ?_ | refine CR_ans ?_ | refine CR_msg ?_ | refine CQ_op ?_ | refine CQ_ans ?_ | refine CQ_msg ?_ | refine CQp ?_ | refine CQ ?_ | simp (maxSteps := 1000000) (disch := omega) only [go_sem, hg, hu, hv, hb2, hr2, eqE_self]) | skip
    all_goals first | rfl
  · repeat' (first | (with_reducible intro h; (try simp only [h]); (try simp only [HS] at h)) | ((with_reducible apply scEnd_of); exact rfl; exact rfl) | ((with_reducible apply ScW_of); rfl; rfl; trivial) | with_reducible first | apply Br_of | refine O1 ?_ | refine O2 ?_ | refine O3 ?_ | refine O4 ?_ | refine O5 ?_ | refine CI ?_ | refine CJ ?_ | refine CR_op ?_ | refine CR_ans ?_ | refine CR_msg ?_ | refine CQ_op ?_ | refine CQ_ans ?_ | refine CQ_msg ?_ | refine CQp ?_ | refine CQ ?_ | simp (maxSteps := 1000000) (disch := omega) only [go_sem])
    all_goals (try (exfalso; omega))
end Go.Eng
