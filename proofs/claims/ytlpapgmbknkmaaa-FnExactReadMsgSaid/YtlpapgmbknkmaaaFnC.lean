/-
  Contracts of functions of the program, its reference and the laws: what each returns; the conditions stand in each theorem.
-/
import Derived.Test.YtlpapgmbknkmaaaFnB
set_option linter.unusedSimpArgs false
set_option linter.unusedVariables false
set_option maxRecDepth 100000
set_option maxHeartbeats 2000000
namespace Go.Eng
open Go Go.Proofs

def numsT (l : List Int) : ByteArray := l.foldl (fun s n => s ++ varS n) ⟨#[]⟩
theorem numsT_snoc (l : List Int) (n : Int) : numsT (l ++ [n]) = numsT l ++ varS n := by simp [numsT]
theorem numsT_le : ∀ (l : List Int) (s : ByteArray), (l.foldl (fun s n => s ++ varS n) s).size ≤ s.size + 7 * l.length
  | [], s => by simp
  | n :: t, s => by
    have h1 := numsT_le t (s ++ varS n)
    have h2 := varS_le n
    rw [ByteArray.size_append] at h1
    simp only [List.foldl_cons, List.length_cons]
    omega
theorem numsT_sz (l : List Int) : (numsT l).size ≤ 7 * l.length := by have h := numsT_le l ⟨#[]⟩; have e2 : (⟨#[]⟩ : ByteArray).size = 0 := rfl; rw [e2] at h; unfold numsT; omega
def entF (s : ByteArray) (l : List EV) : ByteArray := l.foldl (fun s p => s ++ (varS p.1 ++ (varS p.2.size ++ p.2))) s
theorem entF_snoc (s : ByteArray) (l : List EV) (p : EV) : entF s (l ++ [p]) = entF s l ++ (varS p.1 ++ (varS p.2.size ++ p.2)) := by simp [entF]
theorem entF_le : ∀ (l : List EV) (s : ByteArray), (∀ p ∈ l, p.2.size ≤ 900) → (entF s l).size ≤ s.size + 914 * l.length
  | [], s, _ => by simp [entF]
  | p :: t, s, h => by
    have h1 := entF_le t (s ++ (varS p.1 ++ (varS p.2.size ++ p.2))) fun q hq => h q (List.mem_cons_of_mem _ hq)
    have h2 := varS_le p.1
    have h3 := varS_le p.2.size
    have h4 := h p (List.mem_cons_self ..)
    rw [ByteArray.size_append, ByteArray.size_append, ByteArray.size_append] at h1
    simp only [entF, List.foldl_cons, List.length_cons] at h1 ⊢
    omega
theorem runB_all (high : Int) : ∀ (l : List EV) (low : Int), runB low high l = true → ∀ p ∈ l, p.2.size ≤ 900
  | [], _, _ => by simp
  | e :: t, low, h => by
    simp only [runB, Bool.and_eq_true, decide_eq_true_eq] at h
    intro p hp
    rcases List.mem_cons.1 hp with rfl | hp
    · omega
    · exact runB_all high t _ h.2 p hp
theorem msgB_ent {k fr to tm ix it cm : Int} {y : Bool} {e : List EV} {d : ByteArray} (h : msgB k fr to tm ix it cm y e d = true) : e.length ≤ 4 ∧ ∀ p ∈ e, p.2.size ≤ 900 := by
  rw [msgB_iff] at h
  have hnil : e = [] → e.length ≤ 4 ∧ ∀ p ∈ e, p.2.size ≤ 900 := fun he => by subst he; simp
  have happ : appB tm ix it cm e = true → e.length ≤ 4 ∧ ∀ p ∈ e, p.2.size ≤ 900 := fun he => by
    simp only [appB, Bool.and_eq_true, decide_eq_true_eq] at he
    exact ⟨he.1.1.2, runB_all _ _ _ he.1.2⟩
  unfold msgP at h
  grind
def bI (y : Bool) : Int := if y then 1 else 0
def msgN (k fr to tm ix it cm : Int) (y : Bool) (e : List EV) : List Int := [k, fr, to, tm, ix, it, cm, bI y, (e.length : Int)]
def msgT (k fr to tm ix it cm : Int) (y : Bool) (e : List EV) (d : ByteArray) : ByteArray := entF (numsT (msgN k fr to tm ix it cm y e)) e ++ d
noncomputable def showM (k fr to tm ix it cm : Int) (y : Bool) (e : List EV) (d : ByteArray) : ByteArray :=
  if msgB k fr to tm ix it cm y e d = true then fixS (crcN (msgT k fr to tm ix it cm y e d)) 4 ++ msgT k fr to tm ix it cm y e d else ⟨#[]⟩
theorem empty_app (s : ByteArray) : (⟨#[]⟩ : ByteArray) ++ s = s := by
  apply str_inj; rw [bytes_append]; rfl

theorem g58 (s : ByteArray) (hyp : s.size ≤ 1152921504606846976) : Good Try.prog 58 [⟨.one, [.str s]⟩] [] (⟨.one, [.str (varS s.size ++ s)]⟩) [⟨.one, [.str s]⟩] [] := by
  refine Good_of (E := envOf [(57, c57)]) (envOk_of ⟨ctr57, trivial⟩) Try.func58 m58 rfl ?_
  have z1 := varS_le s.size
  simp (maxSteps := 1000000) (disch := omega) only [go_sem, wI, wB, x58, r58_0, r58_1, Root.isRef, Int.toNat_natCast, natS1, natS2, rowsE_at, rowsE_get, rowsE_length, Nat.mul_one, Nat.div_one, Nat.mod_one, hitG, Root.inRng, ↓ownize_c, ownC_al, ownD_some, ↓moveOut_slot, moveC_own, ↓rootCell_slot, ↓rootCell_ref, ↓setRoot_slot, ↓setRoot_ref]
  repeat' (first | ((with_reducible apply scEnd_of); exact rfl; exact rfl) | ((with_reducible apply ScW_of); rfl; rfl; trivial; (intro h; try simp only [HS] at h)) | ((with_reducible apply Br_of) <;> (intro h; (try simp only [h]); (try simp only [HS] at h))) | ((with_reducible first | refine Opt_put_if ?_ ?_ | refine Opt_if ?_ ?_ | refine Opt_bind_if ?_ ?_ | refine Opt_ifb ?_ ?_); (· (first | omega | (refine ⟨?_, ?_⟩ <;> omega) | (refine ⟨?_, ?_, ?_⟩ <;> omega) | (refine ⟨rfl, ?_⟩; simp only [okBig, Bool.and_eq_true, decide_eq_true_eq]; omega) | (refine Nat.le_trans (Nat.add_le_add_left (varS_le _) _) ?_; simp only [size_strOfNums, List.length_cons, List.length_nil, rowsE_length, ByteArray.size_append]; omega) | (refine ⟨rfl, ?_⟩; simp only [okBig, Bool.and_eq_true, decide_eq_true_eq, size_strOfNums, List.length_cons, List.length_nil, rowsE_length, ByteArray.size_append]; omega) | (simp only [size_strOfNums, List.length_cons, List.length_nil, rowsE_length, ByteArray.size_append]; omega)))) | ((with_reducible refine Opt_bind_ifn ?_ ?_); (· omega)) | simp (maxSteps := 1000000) (disch := omega) only [go_sem, wI, wB, Root.isRef, Int.toNat_natCast, natS1, natS2, rowsE_at, rowsE_get, rowsE_length, Nat.mul_one, Nat.div_one, Nat.mod_one, hitG, Root.inRng, ↓ownize_c, ownC_al, ownD_some, ↓moveOut_slot, moveC_own, ↓rootCell_slot, ↓rootCell_ref, ↓setRoot_slot, ↓setRoot_ref])
noncomputable def c58 : List SV → Refs → Option (SV × List SV × Refs)
  | [⟨.one, [.str s]⟩], [] => (open Classical in if s.size ≤ 1152921504606846976 then some (⟨.one, [.str (varS s.size ++ s)]⟩, [⟨.one, [.str s]⟩], []) else none)
  | _, _ => none
theorem ctr58 : Ctr Try.prog 58 c58 := by
  refine ⟨k58, fun args rf res args' rf' h => ?_⟩
  unfold c58 at h
  split at h
  · split at h
    · rename_i hyp
      simp only [Option.some.injEq, Prod.mk.injEq] at h
      obtain ⟨rfl, rfl, rfl⟩ := h
      exact g58 _ hyp
    · simp at h
  · simp at h
theorem c58_eq {s : ByteArray} (hyp : s.size ≤ 1152921504606846976) : c58 [⟨.one, [.str s]⟩] [] = some (⟨.one, [.str (varS s.size ++ s)]⟩, [⟨.one, [.str s]⟩], []) := if_pos hyp

theorem g54 (y : Bool) : Good Try.prog 54 [⟨.one, [.bool y]⟩] [] (⟨.one, [.int .i64 (bI y)]⟩) [⟨.one, [.bool y]⟩] [] := by
  refine Good_of (E := envOf []) (envOk_of trivial) Try.func54 m54 rfl ?_
  simp (maxSteps := 1000000) (disch := omega) only [go_sem, wI, wB, x54, r54_0, r54_1, r54_2, r54_3, Root.isRef, Int.toNat_natCast, natS1, natS2, rowsE_at, rowsE_get, rowsE_length, Nat.mul_one, Nat.div_one, Nat.mod_one, hitG, Root.inRng, ↓ownize_c, ownC_al, ownD_some, ↓moveOut_slot, moveC_own, ↓rootCell_slot, ↓rootCell_ref, ↓setRoot_slot, ↓setRoot_ref]
  repeat' (first | ((with_reducible apply scEnd_of); exact rfl; exact rfl) | ((with_reducible apply ScW_of); rfl; rfl; trivial; (intro h; try simp only [HS] at h)) | ((with_reducible apply Br_of) <;> (intro h; (try simp only [h]); (try simp only [HS] at h))) | ((with_reducible first | refine Opt_put_if ?_ ?_ | refine Opt_if ?_ ?_ | refine Opt_bind_if ?_ ?_ | refine Opt_ifb ?_ ?_); (· (first | omega | (refine ⟨?_, ?_⟩ <;> omega) | (refine ⟨?_, ?_, ?_⟩ <;> omega) | (refine ⟨rfl, ?_⟩; simp only [okBig, Bool.and_eq_true, decide_eq_true_eq]; omega)))) | ((with_reducible refine Opt_bind_ifn ?_ ?_); (· omega)) | simp (maxSteps := 1000000) (disch := omega) only [go_sem, wI, wB, Root.isRef, Int.toNat_natCast, natS1, natS2, rowsE_at, rowsE_get, rowsE_length, Nat.mul_one, Nat.div_one, Nat.mod_one, hitG, Root.inRng, ↓ownize_c, ownC_al, ownD_some, ↓moveOut_slot, moveC_own, ↓rootCell_slot, ↓rootCell_ref, ↓setRoot_slot, ↓setRoot_ref])
  · subst h; rfl
  · subst h; rfl
noncomputable def c54 : List SV → Refs → Option (SV × List SV × Refs)
  | [⟨.one, [.bool y]⟩], [] => some (⟨.one, [.int .i64 (bI y)]⟩, [⟨.one, [.bool y]⟩], [])
  | _, _ => none
theorem ctr54 : Ctr Try.prog 54 c54 := by
  refine ⟨k54, fun args rf res args' rf' h => ?_⟩
  unfold c54 at h
  split at h
  · simp only [Option.some.injEq, Prod.mk.injEq] at h
    obtain ⟨rfl, rfl, rfl⟩ := h
    exact g54 _
  · simp at h
@[go_sem] theorem c54_eq {y : Bool} : c54 [⟨.one, [.bool y]⟩] [] = some (⟨.one, [.int .i64 (bI y)]⟩, [⟨.one, [.bool y]⟩], []) := rfl

theorem g18 (k fr to tm ix it cm : Int) (y : Bool) (e : List EV) (d : ByteArray) (hyp : ((-9223372036854775808 ≤ fr ∧ fr ≤ 9223372036854775807) ∧ (-9223372036854775808 ≤ to ∧ to ≤ 9223372036854775807)) ∧ (e.length ≤ 1048576 ∧ d.size ≤ 1152921504606846976) ∧ (∀ p ∈ e, p.2.size ≤ 9223372036854775807)) : Good Try.prog 18 [⟨.agg, [.int .i64 k, .int .i64 fr, .int .i64 to, .int .i64 tm, .int .i64 ix, .int .i64 it, .int .i64 cm, .bool y, .ro 2 (rowsE e), .str d]⟩] [] (⟨.one, [.str (showM k fr to tm ix it cm y e d)]⟩) [⟨.agg, [.int .i64 k, .int .i64 fr, .int .i64 to, .int .i64 tm, .int .i64 ix, .int .i64 it, .int .i64 cm, .bool y, .ro 2 (rowsE e), .str d]⟩] [] := by
  refine Good_of (E := envOf [(15, c15), (57, c57), (58, c58), (60, c60), (59, c59)]) (envOk_of ⟨ctr15, ⟨ctr57, ⟨ctr58, ⟨ctr60, ⟨ctr59, trivial⟩⟩⟩⟩⟩) Try.func18 m18 rfl ?_
  have hC := fun (s : ByteArray) (h : s.size ≤ 9223372036854775807) => c60_eq (s := s) h
  have hM := c15_eq (k := k) (fr := fr) (to := to) (tm := tm) (ix := ix) (it := it) (cm := cm) (y := y) (e := e) (d := d) hyp
  by_cases hk : msgB k fr to tm ix it cm y e d = true
  · obtain ⟨he, hd⟩ := msgB_ent hk
    cases y
    · simp (maxSteps := 1000000) (disch := omega) only [go_sem, wI, wB, x18, r18_0, r18_1, r18_2, r18_3, r18_4, r18_5, r18_6, r18_7, r18_8, r18_9, r18_10, r18_11, r18_12, r18_13, r18_14, r18_15v, r18_15t, r18_16, r18_17, r18_18, Root.isRef, Int.toNat_natCast, natS1, natS2, rowsE_at, rowsE_get, rowsE_length, Nat.mul_one, Nat.div_one, Nat.mod_one, hitG, Root.inRng, ↓ownize_c, ownC_al, ownD_some, ↓moveOut_slot, moveC_own, ↓rootCell_slot, ↓rootCell_ref, ↓setRoot_slot, ↓setRoot_ref, rowsI_at, rowsI_get, rowsI_length, hM, hC, c58_eq, hk]
      repeat' (first | ((with_reducible apply scEnd_of); exact rfl; exact rfl) | ((with_reducible apply ScW_of); rfl; rfl; trivial; (intro h; try simp only [HS] at h)) | ((with_reducible apply Br_of) <;> (intro h; (try simp only [h]); (try simp only [HS] at h))) | ((with_reducible first | refine Opt_put_if ?_ ?_ | refine Opt_if ?_ ?_ | refine Opt_bind_if ?_ ?_ | refine Opt_ifb ?_ ?_); (· (first | omega | (refine ⟨?_, ?_⟩ <;> omega) | (refine ⟨?_, ?_, ?_⟩ <;> omega) | (refine ⟨rfl, ?_⟩; simp only [okBig, Bool.and_eq_true, decide_eq_true_eq]; omega) | (refine Nat.le_trans (Nat.add_le_add_left (varS_le _) _) ?_; simp only [size_strOfNums, List.length_cons, List.length_nil, rowsE_length, ByteArray.size_append]; omega) | (refine ⟨rfl, ?_⟩; simp only [okBig, Bool.and_eq_true, decide_eq_true_eq, size_strOfNums, List.length_cons, List.length_nil, rowsE_length, ByteArray.size_append]; omega) | (simp only [size_strOfNums, List.length_cons, List.length_nil, rowsE_length, ByteArray.size_append]; omega)))) | ((with_reducible refine Opt_bind_ifn ?_ ?_); (· omega)) | simp (maxSteps := 1000000) (disch := omega) only [go_sem, wI, wB, Root.isRef, Int.toNat_natCast, natS1, natS2, rowsE_at, rowsE_get, rowsE_length, Nat.mul_one, Nat.div_one, Nat.mod_one, hitG, Root.inRng, ↓ownize_c, ownC_al, ownD_some, ↓moveOut_slot, moveC_own, ↓rootCell_slot, ↓rootCell_ref, ↓setRoot_slot, ↓setRoot_ref, rowsI_at, rowsI_get, rowsI_length, hM, hC, c58_eq, hk])
      have hlen : (msgN k fr to tm ix it cm false e).length = 9 := rfl
      have hn9 := numsT_sz (msgN k fr to tm ix it cm false e)
      refine LoopK_of (α := Nat) (fun p => ⟨[(34, i64 p), (33, i64 9), (32, ⟨.one, [.own 1 (rowsI (msgN k fr to tm ix it cm false e))]⟩), (4, ⟨.one, [.str (numsT ((msgN k fr to tm ix it cm false e).take p))]⟩), (1, ⟨.one, [.ptr 1 0]⟩)], [(1, [.int .i64 k, .int .i64 fr, .int .i64 to, .int .i64 tm, .int .i64 ix, .int .i64 it, .int .i64 cm, .bool false, .ro 2 (rowsE e), .str d])], [(0, ⟨.agg, [.int .i64 k, .int .i64 fr, .int .i64 to, .int .i64 tm, .int .i64 ix, .int .i64 it, .int .i64 cm, .bool false, .ro 2 (rowsE e), .str d]⟩)]⟩) (fun p => p ≤ 9) (fun p => 9 - p) 0 rfl (Nat.zero_le _) ?_
      intro i hi
      have hs := numsT_sz ((msgN k fr to tm ix it cm false e).take i)
      rw [List.length_take] at hs
      have hv0 := varS_le ((msgN k fr to tm ix it cm false e).getD i 0)
      simp (maxSteps := 1000000) (disch := omega) only [go_sem, wI, wB, x18, r18_0, r18_1, r18_2, r18_3, r18_4, r18_5, r18_6, r18_7, r18_8, r18_9, r18_10, r18_11, r18_12, r18_13, r18_14, r18_15v, r18_15t, r18_16, r18_17, r18_18, Root.isRef, Int.toNat_natCast, natS1, natS2, rowsE_at, rowsE_get, rowsE_length, Nat.mul_one, Nat.div_one, Nat.mod_one, hitG, Root.inRng, ↓ownize_c, ownC_al, ownD_some, ↓moveOut_slot, moveC_own, ↓rootCell_slot, ↓rootCell_ref, ↓setRoot_slot, ↓setRoot_ref, rowsI_at, rowsI_get, rowsI_length, hM, hC, c58_eq]
      repeat' (first | ((with_reducible apply scEnd_of); exact rfl; exact rfl) | ((with_reducible apply ScW_of); rfl; rfl; trivial; (intro h; try simp only [HS] at h)) | ((with_reducible apply Br_of) <;> (intro h; (try simp only [h]); (try simp only [HS] at h))) | ((with_reducible first | refine Opt_put_if ?_ ?_ | refine Opt_if ?_ ?_ | refine Opt_bind_if ?_ ?_ | refine Opt_ifb ?_ ?_); (· (first | omega | (refine ⟨?_, ?_⟩ <;> omega) | (refine ⟨?_, ?_, ?_⟩ <;> omega) | (refine ⟨rfl, ?_⟩; simp only [okBig, Bool.and_eq_true, decide_eq_true_eq]; omega) | (refine Nat.le_trans (Nat.add_le_add_left (varS_le _) _) ?_; simp only [size_strOfNums, List.length_cons, List.length_nil, rowsE_length, ByteArray.size_append]; omega) | (refine ⟨rfl, ?_⟩; simp only [okBig, Bool.and_eq_true, decide_eq_true_eq, size_strOfNums, List.length_cons, List.length_nil, rowsE_length, ByteArray.size_append]; omega) | (simp only [size_strOfNums, List.length_cons, List.length_nil, rowsE_length, ByteArray.size_append]; omega)))) | ((with_reducible refine Opt_bind_ifn ?_ ?_); (· omega)) | simp (maxSteps := 1000000) (disch := omega) only [go_sem, wI, wB, Root.isRef, Int.toNat_natCast, natS1, natS2, rowsE_at, rowsE_get, rowsE_length, Nat.mul_one, Nat.div_one, Nat.mod_one, hitG, Root.inRng, ↓ownize_c, ownC_al, ownD_some, ↓moveOut_slot, moveC_own, ↓rootCell_slot, ↓rootCell_ref, ↓setRoot_slot, ↓setRoot_ref, rowsI_at, rowsI_get, rowsI_length, hM, hC, c58_eq])
      all_goals (try (exfalso; omega))
      · rw [← numsT_snoc, ← take_snocZ 0 (by omega)]
        exact LoopQ_of (i + 1) rfl (by omega) (by omega)
      · rw [List.take_of_length_le (by omega)]
        have hE := entF_le e (numsT (msgN k fr to tm ix it cm false e)) hd
        have hT : (entF (numsT (msgN k fr to tm ix it cm false e)) e ++ d).size ≤ 1152921504606900000 := by rw [ByteArray.size_append]; omega
        have hF := fixS_le (crcN (entF (numsT (msgN k fr to tm ix it cm false e)) e ++ d)) 4
        refine LoopK_of (α := Nat) (fun p => ⟨[(46, i64 p), (45, i64 e.length), (44, ⟨.one, [.ro 2 (rowsE e)]⟩), (43, ⟨.one, [.ptr 1 8]⟩), (4, ⟨.one, [.str (entF (numsT (msgN k fr to tm ix it cm false e)) (e.take p))]⟩), (1, ⟨.one, [.ptr 1 0]⟩)], [(1, [.int .i64 k, .int .i64 fr, .int .i64 to, .int .i64 tm, .int .i64 ix, .int .i64 it, .int .i64 cm, .bool false, .ro 2 (rowsE e), .str d])], [(0, ⟨.agg, [.int .i64 k, .int .i64 fr, .int .i64 to, .int .i64 tm, .int .i64 ix, .int .i64 it, .int .i64 cm, .bool false, .ro 2 (rowsE e), .str d]⟩)]⟩) (fun p => p ≤ e.length) (fun p => e.length - p) 0 rfl (Nat.zero_le _) ?_
        intro j hj
        by_cases hx : j < e.length
        · have hz := hd _ (getD_mem eZ hx)
          have hs2 := entF_le (e.take j) (numsT (msgN k fr to tm ix it cm false e)) fun p hp => hd p (List.mem_of_mem_take hp)
          rw [List.length_take] at hs2
          have hv := varS_le (e.getD j eZ).1
          have hv2 := varS_le (e.getD j eZ).2.size
          simp (maxSteps := 1000000) (disch := omega) only [go_sem, wI, wB, x18, r18_0, r18_1, r18_2, r18_3, r18_4, r18_5, r18_6, r18_7, r18_8, r18_9, r18_10, r18_11, r18_12, r18_13, r18_14, r18_15v, r18_15t, r18_16, r18_17, r18_18, Root.isRef, Int.toNat_natCast, natS1, natS2, rowsE_at, rowsE_get, rowsE_length, Nat.mul_one, Nat.div_one, Nat.mod_one, hitG, Root.inRng, ↓ownize_c, ownC_al, ownD_some, ↓moveOut_slot, moveC_own, ↓rootCell_slot, ↓rootCell_ref, ↓setRoot_slot, ↓setRoot_ref, rowsI_at, rowsI_get, rowsI_length, hM, hC, c58_eq]
          repeat' (first | ((with_reducible apply scEnd_of); exact rfl; exact rfl) | ((with_reducible apply ScW_of); rfl; rfl; trivial; (intro h; try simp only [HS] at h)) | ((with_reducible apply Br_of) <;> (intro h; (try simp only [h]); (try simp only [HS] at h))) | ((with_reducible first | refine Opt_put_if ?_ ?_ | refine Opt_if ?_ ?_ | refine Opt_bind_if ?_ ?_ | refine Opt_ifb ?_ ?_); (· (first | omega | (refine ⟨?_, ?_⟩ <;> omega) | (refine ⟨?_, ?_, ?_⟩ <;> omega) | (refine ⟨rfl, ?_⟩; simp only [okBig, Bool.and_eq_true, decide_eq_true_eq]; omega) | (refine Nat.le_trans (Nat.add_le_add_left (varS_le _) _) ?_; simp only [size_strOfNums, List.length_cons, List.length_nil, rowsE_length, ByteArray.size_append]; omega) | (refine ⟨rfl, ?_⟩; simp only [okBig, Bool.and_eq_true, decide_eq_true_eq, size_strOfNums, List.length_cons, List.length_nil, rowsE_length, ByteArray.size_append]; omega) | (simp only [size_strOfNums, List.length_cons, List.length_nil, rowsE_length, ByteArray.size_append]; omega)))) | ((with_reducible refine Opt_bind_ifn ?_ ?_); (· omega)) | simp (maxSteps := 1000000) (disch := omega) only [go_sem, wI, wB, Root.isRef, Int.toNat_natCast, natS1, natS2, rowsE_at, rowsE_get, rowsE_length, Nat.mul_one, Nat.div_one, Nat.mod_one, hitG, Root.inRng, ↓ownize_c, ownC_al, ownD_some, ↓moveOut_slot, moveC_own, ↓rootCell_slot, ↓rootCell_ref, ↓setRoot_slot, ↓setRoot_ref, rowsI_at, rowsI_get, rowsI_length, hM, hC, c58_eq])
          all_goals (try (exfalso; omega))
          · rw [← entF_snoc _ _ (e.getD j eZ), ← take_snocZ eZ (by omega)]
            exact LoopQ_of (j + 1) rfl (by omega) (by omega)
        · rw [List.take_of_length_le (by omega)]
          simp (maxSteps := 1000000) (disch := omega) only [go_sem, wI, wB, x18, r18_0, r18_1, r18_2, r18_3, r18_4, r18_5, r18_6, r18_7, r18_8, r18_9, r18_10, r18_11, r18_12, r18_13, r18_14, r18_15v, r18_15t, r18_16, r18_17, r18_18, Root.isRef, Int.toNat_natCast, natS1, natS2, rowsE_at, rowsE_get, rowsE_length, Nat.mul_one, Nat.div_one, Nat.mod_one, hitG, Root.inRng, ↓ownize_c, ownC_al, ownD_some, ↓moveOut_slot, moveC_own, ↓rootCell_slot, ↓rootCell_ref, ↓setRoot_slot, ↓setRoot_ref, rowsI_at, rowsI_get, rowsI_length, hM, hC, c58_eq]
          repeat' (first | ((with_reducible apply scEnd_of); exact rfl; exact rfl) | ((with_reducible apply ScW_of); rfl; rfl; trivial; (intro h; try simp only [HS] at h)) | ((with_reducible apply Br_of) <;> (intro h; (try simp only [h]); (try simp only [HS] at h))) | ((with_reducible first | refine Opt_put_if ?_ ?_ | refine Opt_if ?_ ?_ | refine Opt_bind_if ?_ ?_ | refine Opt_ifb ?_ ?_); (· (first | omega | (refine ⟨?_, ?_⟩ <;> omega) | (refine ⟨?_, ?_, ?_⟩ <;> omega) | (refine ⟨rfl, ?_⟩; simp only [okBig, Bool.and_eq_true, decide_eq_true_eq]; omega) | (refine Nat.le_trans (Nat.add_le_add_left (varS_le _) _) ?_; simp only [size_strOfNums, List.length_cons, List.length_nil, rowsE_length, ByteArray.size_append]; omega) | (refine ⟨rfl, ?_⟩; simp only [okBig, Bool.and_eq_true, decide_eq_true_eq, size_strOfNums, List.length_cons, List.length_nil, rowsE_length, ByteArray.size_append]; omega) | (simp only [size_strOfNums, List.length_cons, List.length_nil, rowsE_length, ByteArray.size_append]; omega)))) | ((with_reducible refine Opt_bind_ifn ?_ ?_); (· omega)) | simp (maxSteps := 1000000) (disch := omega) only [go_sem, wI, wB, Root.isRef, Int.toNat_natCast, natS1, natS2, rowsE_at, rowsE_get, rowsE_length, Nat.mul_one, Nat.div_one, Nat.mod_one, hitG, Root.inRng, ↓ownize_c, ownC_al, ownD_some, ↓moveOut_slot, moveC_own, ↓rootCell_slot, ↓rootCell_ref, ↓setRoot_slot, ↓setRoot_ref, rowsI_at, rowsI_get, rowsI_length, hM, hC, c58_eq])
          all_goals (try (exfalso; omega))
          · rw [showM, if_pos hk]; rfl
    · simp (maxSteps := 1000000) (disch := omega) only [go_sem, wI, wB, x18, r18_0, r18_1, r18_2, r18_3, r18_4, r18_5, r18_6, r18_7, r18_8, r18_9, r18_10, r18_11, r18_12, r18_13, r18_14, r18_15v, r18_15t, r18_16, r18_17, r18_18, Root.isRef, Int.toNat_natCast, natS1, natS2, rowsE_at, rowsE_get, rowsE_length, Nat.mul_one, Nat.div_one, Nat.mod_one, hitG, Root.inRng, ↓ownize_c, ownC_al, ownD_some, ↓moveOut_slot, moveC_own, ↓rootCell_slot, ↓rootCell_ref, ↓setRoot_slot, ↓setRoot_ref, rowsI_at, rowsI_get, rowsI_length, hM, hC, c58_eq, hk]
      repeat' (first | ((with_reducible apply scEnd_of); exact rfl; exact rfl) | ((with_reducible apply ScW_of); rfl; rfl; trivial; (intro h; try simp only [HS] at h)) | ((with_reducible apply Br_of) <;> (intro h; (try simp only [h]); (try simp only [HS] at h))) | ((with_reducible first | refine Opt_put_if ?_ ?_ | refine Opt_if ?_ ?_ | refine Opt_bind_if ?_ ?_ | refine Opt_ifb ?_ ?_); (· (first | omega | (refine ⟨?_, ?_⟩ <;> omega) | (refine ⟨?_, ?_, ?_⟩ <;> omega) | (refine ⟨rfl, ?_⟩; simp only [okBig, Bool.and_eq_true, decide_eq_true_eq]; omega) | (refine Nat.le_trans (Nat.add_le_add_left (varS_le _) _) ?_; simp only [size_strOfNums, List.length_cons, List.length_nil, rowsE_length, ByteArray.size_append]; omega) | (refine ⟨rfl, ?_⟩; simp only [okBig, Bool.and_eq_true, decide_eq_true_eq, size_strOfNums, List.length_cons, List.length_nil, rowsE_length, ByteArray.size_append]; omega) | (simp only [size_strOfNums, List.length_cons, List.length_nil, rowsE_length, ByteArray.size_append]; omega)))) | ((with_reducible refine Opt_bind_ifn ?_ ?_); (· omega)) | simp (maxSteps := 1000000) (disch := omega) only [go_sem, wI, wB, Root.isRef, Int.toNat_natCast, natS1, natS2, rowsE_at, rowsE_get, rowsE_length, Nat.mul_one, Nat.div_one, Nat.mod_one, hitG, Root.inRng, ↓ownize_c, ownC_al, ownD_some, ↓moveOut_slot, moveC_own, ↓rootCell_slot, ↓rootCell_ref, ↓setRoot_slot, ↓setRoot_ref, rowsI_at, rowsI_get, rowsI_length, hM, hC, c58_eq, hk])
      have hlen : (msgN k fr to tm ix it cm true e).length = 9 := rfl
      have hn9 := numsT_sz (msgN k fr to tm ix it cm true e)
      refine LoopK_of (α := Nat) (fun p => ⟨[(34, i64 p), (33, i64 9), (32, ⟨.one, [.own 1 (rowsI (msgN k fr to tm ix it cm true e))]⟩), (4, ⟨.one, [.str (numsT ((msgN k fr to tm ix it cm true e).take p))]⟩), (1, ⟨.one, [.ptr 1 0]⟩)], [(1, [.int .i64 k, .int .i64 fr, .int .i64 to, .int .i64 tm, .int .i64 ix, .int .i64 it, .int .i64 cm, .bool true, .ro 2 (rowsE e), .str d])], [(0, ⟨.agg, [.int .i64 k, .int .i64 fr, .int .i64 to, .int .i64 tm, .int .i64 ix, .int .i64 it, .int .i64 cm, .bool true, .ro 2 (rowsE e), .str d]⟩)]⟩) (fun p => p ≤ 9) (fun p => 9 - p) 0 rfl (Nat.zero_le _) ?_
      intro i hi
      have hs := numsT_sz ((msgN k fr to tm ix it cm true e).take i)
      rw [List.length_take] at hs
      have hv0 := varS_le ((msgN k fr to tm ix it cm true e).getD i 0)
      simp (maxSteps := 1000000) (disch := omega) only [go_sem, wI, wB, x18, r18_0, r18_1, r18_2, r18_3, r18_4, r18_5, r18_6, r18_7, r18_8, r18_9, r18_10, r18_11, r18_12, r18_13, r18_14, r18_15v, r18_15t, r18_16, r18_17, r18_18, Root.isRef, Int.toNat_natCast, natS1, natS2, rowsE_at, rowsE_get, rowsE_length, Nat.mul_one, Nat.div_one, Nat.mod_one, hitG, Root.inRng, ↓ownize_c, ownC_al, ownD_some, ↓moveOut_slot, moveC_own, ↓rootCell_slot, ↓rootCell_ref, ↓setRoot_slot, ↓setRoot_ref, rowsI_at, rowsI_get, rowsI_length, hM, hC, c58_eq]
      repeat' (first | ((with_reducible apply scEnd_of); exact rfl; exact rfl) | ((with_reducible apply ScW_of); rfl; rfl; trivial; (intro h; try simp only [HS] at h)) | ((with_reducible apply Br_of) <;> (intro h; (try simp only [h]); (try simp only [HS] at h))) | ((with_reducible first | refine Opt_put_if ?_ ?_ | refine Opt_if ?_ ?_ | refine Opt_bind_if ?_ ?_ | refine Opt_ifb ?_ ?_); (· (first | omega | (refine ⟨?_, ?_⟩ <;> omega) | (refine ⟨?_, ?_, ?_⟩ <;> omega) | (refine ⟨rfl, ?_⟩; simp only [okBig, Bool.and_eq_true, decide_eq_true_eq]; omega) | (refine Nat.le_trans (Nat.add_le_add_left (varS_le _) _) ?_; simp only [size_strOfNums, List.length_cons, List.length_nil, rowsE_length, ByteArray.size_append]; omega) | (refine ⟨rfl, ?_⟩; simp only [okBig, Bool.and_eq_true, decide_eq_true_eq, size_strOfNums, List.length_cons, List.length_nil, rowsE_length, ByteArray.size_append]; omega) | (simp only [size_strOfNums, List.length_cons, List.length_nil, rowsE_length, ByteArray.size_append]; omega)))) | ((with_reducible refine Opt_bind_ifn ?_ ?_); (· omega)) | simp (maxSteps := 1000000) (disch := omega) only [go_sem, wI, wB, Root.isRef, Int.toNat_natCast, natS1, natS2, rowsE_at, rowsE_get, rowsE_length, Nat.mul_one, Nat.div_one, Nat.mod_one, hitG, Root.inRng, ↓ownize_c, ownC_al, ownD_some, ↓moveOut_slot, moveC_own, ↓rootCell_slot, ↓rootCell_ref, ↓setRoot_slot, ↓setRoot_ref, rowsI_at, rowsI_get, rowsI_length, hM, hC, c58_eq])
      all_goals (try (exfalso; omega))
      · rw [← numsT_snoc, ← take_snocZ 0 (by omega)]
        exact LoopQ_of (i + 1) rfl (by omega) (by omega)
      · rw [List.take_of_length_le (by omega)]
        have hE := entF_le e (numsT (msgN k fr to tm ix it cm true e)) hd
        have hT : (entF (numsT (msgN k fr to tm ix it cm true e)) e ++ d).size ≤ 1152921504606900000 := by rw [ByteArray.size_append]; omega
        have hF := fixS_le (crcN (entF (numsT (msgN k fr to tm ix it cm true e)) e ++ d)) 4
        refine LoopK_of (α := Nat) (fun p => ⟨[(46, i64 p), (45, i64 e.length), (44, ⟨.one, [.ro 2 (rowsE e)]⟩), (43, ⟨.one, [.ptr 1 8]⟩), (4, ⟨.one, [.str (entF (numsT (msgN k fr to tm ix it cm true e)) (e.take p))]⟩), (1, ⟨.one, [.ptr 1 0]⟩)], [(1, [.int .i64 k, .int .i64 fr, .int .i64 to, .int .i64 tm, .int .i64 ix, .int .i64 it, .int .i64 cm, .bool true, .ro 2 (rowsE e), .str d])], [(0, ⟨.agg, [.int .i64 k, .int .i64 fr, .int .i64 to, .int .i64 tm, .int .i64 ix, .int .i64 it, .int .i64 cm, .bool true, .ro 2 (rowsE e), .str d]⟩)]⟩) (fun p => p ≤ e.length) (fun p => e.length - p) 0 rfl (Nat.zero_le _) ?_
        intro j hj
        by_cases hx : j < e.length
        · have hz := hd _ (getD_mem eZ hx)
          have hs2 := entF_le (e.take j) (numsT (msgN k fr to tm ix it cm true e)) fun p hp => hd p (List.mem_of_mem_take hp)
          rw [List.length_take] at hs2
          have hv := varS_le (e.getD j eZ).1
          have hv2 := varS_le (e.getD j eZ).2.size
          simp (maxSteps := 1000000) (disch := omega) only [go_sem, wI, wB, x18, r18_0, r18_1, r18_2, r18_3, r18_4, r18_5, r18_6, r18_7, r18_8, r18_9, r18_10, r18_11, r18_12, r18_13, r18_14, r18_15v, r18_15t, r18_16, r18_17, r18_18, Root.isRef, Int.toNat_natCast, natS1, natS2, rowsE_at, rowsE_get, rowsE_length, Nat.mul_one, Nat.div_one, Nat.mod_one, hitG, Root.inRng, ↓ownize_c, ownC_al, ownD_some, ↓moveOut_slot, moveC_own, ↓rootCell_slot, ↓rootCell_ref, ↓setRoot_slot, ↓setRoot_ref, rowsI_at, rowsI_get, rowsI_length, hM, hC, c58_eq]
          repeat' (first | ((with_reducible apply scEnd_of); exact rfl; exact rfl) | ((with_reducible apply ScW_of); rfl; rfl; trivial; (intro h; try simp only [HS] at h)) | ((with_reducible apply Br_of) <;> (intro h; (try simp only [h]); (try simp only [HS] at h))) | ((with_reducible first | refine Opt_put_if ?_ ?_ | refine Opt_if ?_ ?_ | refine Opt_bind_if ?_ ?_ | refine Opt_ifb ?_ ?_); (· (first | omega | (refine ⟨?_, ?_⟩ <;> omega) | (refine ⟨?_, ?_, ?_⟩ <;> omega) | (refine ⟨rfl, ?_⟩; simp only [okBig, Bool.and_eq_true, decide_eq_true_eq]; omega) | (refine Nat.le_trans (Nat.add_le_add_left (varS_le _) _) ?_; simp only [size_strOfNums, List.length_cons, List.length_nil, rowsE_length, ByteArray.size_append]; omega) | (refine ⟨rfl, ?_⟩; simp only [okBig, Bool.and_eq_true, decide_eq_true_eq, size_strOfNums, List.length_cons, List.length_nil, rowsE_length, ByteArray.size_append]; omega) | (simp only [size_strOfNums, List.length_cons, List.length_nil, rowsE_length, ByteArray.size_append]; omega)))) | ((with_reducible refine Opt_bind_ifn ?_ ?_); (· omega)) | simp (maxSteps := 1000000) (disch := omega) only [go_sem, wI, wB, Root.isRef, Int.toNat_natCast, natS1, natS2, rowsE_at, rowsE_get, rowsE_length, Nat.mul_one, Nat.div_one, Nat.mod_one, hitG, Root.inRng, ↓ownize_c, ownC_al, ownD_some, ↓moveOut_slot, moveC_own, ↓rootCell_slot, ↓rootCell_ref, ↓setRoot_slot, ↓setRoot_ref, rowsI_at, rowsI_get, rowsI_length, hM, hC, c58_eq])
          all_goals (try (exfalso; omega))
          · rw [← entF_snoc _ _ (e.getD j eZ), ← take_snocZ eZ (by omega)]
            exact LoopQ_of (j + 1) rfl (by omega) (by omega)
        · rw [List.take_of_length_le (by omega)]
          simp (maxSteps := 1000000) (disch := omega) only [go_sem, wI, wB, x18, r18_0, r18_1, r18_2, r18_3, r18_4, r18_5, r18_6, r18_7, r18_8, r18_9, r18_10, r18_11, r18_12, r18_13, r18_14, r18_15v, r18_15t, r18_16, r18_17, r18_18, Root.isRef, Int.toNat_natCast, natS1, natS2, rowsE_at, rowsE_get, rowsE_length, Nat.mul_one, Nat.div_one, Nat.mod_one, hitG, Root.inRng, ↓ownize_c, ownC_al, ownD_some, ↓moveOut_slot, moveC_own, ↓rootCell_slot, ↓rootCell_ref, ↓setRoot_slot, ↓setRoot_ref, rowsI_at, rowsI_get, rowsI_length, hM, hC, c58_eq]
          repeat' (first | ((with_reducible apply scEnd_of); exact rfl; exact rfl) | ((with_reducible apply ScW_of); rfl; rfl; trivial; (intro h; try simp only [HS] at h)) | ((with_reducible apply Br_of) <;> (intro h; (try simp only [h]); (try simp only [HS] at h))) | ((with_reducible first | refine Opt_put_if ?_ ?_ | refine Opt_if ?_ ?_ | refine Opt_bind_if ?_ ?_ | refine Opt_ifb ?_ ?_); (· (first | omega | (refine ⟨?_, ?_⟩ <;> omega) | (refine ⟨?_, ?_, ?_⟩ <;> omega) | (refine ⟨rfl, ?_⟩; simp only [okBig, Bool.and_eq_true, decide_eq_true_eq]; omega) | (refine Nat.le_trans (Nat.add_le_add_left (varS_le _) _) ?_; simp only [size_strOfNums, List.length_cons, List.length_nil, rowsE_length, ByteArray.size_append]; omega) | (refine ⟨rfl, ?_⟩; simp only [okBig, Bool.and_eq_true, decide_eq_true_eq, size_strOfNums, List.length_cons, List.length_nil, rowsE_length, ByteArray.size_append]; omega) | (simp only [size_strOfNums, List.length_cons, List.length_nil, rowsE_length, ByteArray.size_append]; omega)))) | ((with_reducible refine Opt_bind_ifn ?_ ?_); (· omega)) | simp (maxSteps := 1000000) (disch := omega) only [go_sem, wI, wB, Root.isRef, Int.toNat_natCast, natS1, natS2, rowsE_at, rowsE_get, rowsE_length, Nat.mul_one, Nat.div_one, Nat.mod_one, hitG, Root.inRng, ↓ownize_c, ownC_al, ownD_some, ↓moveOut_slot, moveC_own, ↓rootCell_slot, ↓rootCell_ref, ↓setRoot_slot, ↓setRoot_ref, rowsI_at, rowsI_get, rowsI_length, hM, hC, c58_eq])
          all_goals (try (exfalso; omega))
          · rw [showM, if_pos hk]; rfl
  · simp (maxSteps := 1000000) (disch := omega) only [go_sem, wI, wB, x18, r18_0, r18_1, r18_2, r18_3, r18_4, r18_5, r18_6, r18_7, r18_8, r18_9, r18_10, r18_11, r18_12, r18_13, r18_14, r18_15v, r18_15t, r18_16, r18_17, r18_18, Root.isRef, Int.toNat_natCast, natS1, natS2, rowsE_at, rowsE_get, rowsE_length, Nat.mul_one, Nat.div_one, Nat.mod_one, hitG, Root.inRng, ↓ownize_c, ownC_al, ownD_some, ↓moveOut_slot, moveC_own, ↓rootCell_slot, ↓rootCell_ref, ↓setRoot_slot, ↓setRoot_ref, rowsI_at, rowsI_get, rowsI_length, hM, hC, c58_eq, hk]
    repeat' (first | ((with_reducible apply scEnd_of); exact rfl; exact rfl) | ((with_reducible apply ScW_of); rfl; rfl; trivial; (intro h; try simp only [HS] at h)) | ((with_reducible apply Br_of) <;> (intro h; (try simp only [h]); (try simp only [HS] at h))) | ((with_reducible first | refine Opt_put_if ?_ ?_ | refine Opt_if ?_ ?_ | refine Opt_bind_if ?_ ?_ | refine Opt_ifb ?_ ?_); (· (first | omega | (refine ⟨?_, ?_⟩ <;> omega) | (refine ⟨?_, ?_, ?_⟩ <;> omega) | (refine ⟨rfl, ?_⟩; simp only [okBig, Bool.and_eq_true, decide_eq_true_eq]; omega) | (refine Nat.le_trans (Nat.add_le_add_left (varS_le _) _) ?_; simp only [size_strOfNums, List.length_cons, List.length_nil, rowsE_length, ByteArray.size_append]; omega) | (refine ⟨rfl, ?_⟩; simp only [okBig, Bool.and_eq_true, decide_eq_true_eq, size_strOfNums, List.length_cons, List.length_nil, rowsE_length, ByteArray.size_append]; omega) | (simp only [size_strOfNums, List.length_cons, List.length_nil, rowsE_length, ByteArray.size_append]; omega)))) | ((with_reducible refine Opt_bind_ifn ?_ ?_); (· omega)) | simp (maxSteps := 1000000) (disch := omega) only [go_sem, wI, wB, Root.isRef, Int.toNat_natCast, natS1, natS2, rowsE_at, rowsE_get, rowsE_length, Nat.mul_one, Nat.div_one, Nat.mod_one, hitG, Root.inRng, ↓ownize_c, ownC_al, ownD_some, ↓moveOut_slot, moveC_own, ↓rootCell_slot, ↓rootCell_ref, ↓setRoot_slot, ↓setRoot_ref, rowsI_at, rowsI_get, rowsI_length, hM, hC, c58_eq, hk])
    rw [showM, if_neg hk]
noncomputable def c18 : List SV → Refs → Option (SV × List SV × Refs) := ctrOf (α := Int × Int × Int × Int × Int × Int × Int × Bool × (List EV) × ByteArray) (fun ⟨k, fr, to, tm, ix, it, cm, y, e, d⟩ => ((-9223372036854775808 ≤ fr ∧ fr ≤ 9223372036854775807) ∧ (-9223372036854775808 ≤ to ∧ to ≤ 9223372036854775807)) ∧ (e.length ≤ 1048576 ∧ d.size ≤ 1152921504606846976) ∧ (∀ p ∈ e, p.2.size ≤ 9223372036854775807)) (fun ⟨k, fr, to, tm, ix, it, cm, y, e, d⟩ => [⟨.agg, [.int .i64 k, .int .i64 fr, .int .i64 to, .int .i64 tm, .int .i64 ix, .int .i64 it, .int .i64 cm, .bool y, .ro 2 (rowsE e), .str d]⟩]) (fun ⟨k, fr, to, tm, ix, it, cm, y, e, d⟩ => []) (fun ⟨k, fr, to, tm, ix, it, cm, y, e, d⟩ => ⟨.one, [.str (showM k fr to tm ix it cm y e d)]⟩) (fun ⟨k, fr, to, tm, ix, it, cm, y, e, d⟩ => [⟨.agg, [.int .i64 k, .int .i64 fr, .int .i64 to, .int .i64 tm, .int .i64 ix, .int .i64 it, .int .i64 cm, .bool y, .ro 2 (rowsE e), .str d]⟩]) (fun ⟨k, fr, to, tm, ix, it, cm, y, e, d⟩ => [])
theorem ctr18 : Ctr Try.prog 18 c18 := ctrOf_ok k18 (fun ⟨k, fr, to, tm, ix, it, cm, y, e, d⟩ hyp => g18 _ _ _ _ _ _ _ _ _ _ hyp)
theorem c18_eq {k fr to tm ix it cm : Int} {y : Bool} {e : List EV} {d : ByteArray} (hyp : ((-9223372036854775808 ≤ fr ∧ fr ≤ 9223372036854775807) ∧ (-9223372036854775808 ≤ to ∧ to ≤ 9223372036854775807)) ∧ (e.length ≤ 1048576 ∧ d.size ≤ 1152921504606846976) ∧ (∀ p ∈ e, p.2.size ≤ 9223372036854775807)) : c18 [⟨.agg, [.int .i64 k, .int .i64 fr, .int .i64 to, .int .i64 tm, .int .i64 ix, .int .i64 it, .int .i64 cm, .bool y, .ro 2 (rowsE e), .str d]⟩] [] = some (⟨.one, [.str (showM k fr to tm ix it cm y e d)]⟩, [⟨.agg, [.int .i64 k, .int .i64 fr, .int .i64 to, .int .i64 tm, .int .i64 ix, .int .i64 it, .int .i64 cm, .bool y, .ro 2 (rowsE e), .str d]⟩], []) := ctrOf_eq (α := Int × Int × Int × Int × Int × Int × Int × Bool × (List EV) × ByteArray) (x := (k, fr, to, tm, ix, it, cm, y, e, d)) (by intro x y h1 h2; simp at h1 h2; first | exact h1 | (simp_all; done) | (ext <;> simp_all)) hyp

theorem g17 (k fr to tm ix it cm : Int) (y : Bool) (e : List EV) (d : ByteArray) (hyp : ((-9223372036854775808 ≤ fr ∧ fr ≤ 9223372036854775807) ∧ (-9223372036854775808 ≤ to ∧ to ≤ 9223372036854775807)) ∧ (e.length ≤ 1048576 ∧ d.size ≤ 1152921504606846976) ∧ (∀ p ∈ e, p.2.size ≤ 9223372036854775807)) : Good Try.prog 17 [⟨.agg, [.int .i64 k, .int .i64 fr, .int .i64 to, .int .i64 tm, .int .i64 ix, .int .i64 it, .int .i64 cm, .bool y, .ro 2 (rowsE e), .str d]⟩] [] (⟨.one, [.str (showM k fr to tm ix it cm y e d)]⟩) [⟨.agg, [.int .i64 k, .int .i64 fr, .int .i64 to, .int .i64 tm, .int .i64 ix, .int .i64 it, .int .i64 cm, .bool y, .ro 2 (rowsE e), .str d]⟩] [] := by
  refine Good_of (E := envOf [(13, c13), (53, c53), (54, c54), (56, c56), (55, c55)]) (envOk_of ⟨ctr13, ⟨ctr53, ⟨ctr54, ⟨ctr56, ⟨ctr55, trivial⟩⟩⟩⟩⟩) Try.func17 m17 rfl ?_
  have hC := fun (s : ByteArray) (h : s.size ≤ 9223372036854775807) => c56_eq (s := s) h
  have hM := c13_eq (k := k) (fr := fr) (to := to) (tm := tm) (ix := ix) (it := it) (cm := cm) (y := y) (e := e) (d := d) hyp
  by_cases hk : msgB k fr to tm ix it cm y e d = true
  · obtain ⟨he, hd⟩ := msgB_ent hk
    have hn9 := numsT_sz (msgN k fr to tm ix it cm y e)
    have hlen : (msgN k fr to tm ix it cm y e).length = 9 := rfl
    have hE := entF_le e (numsT (msgN k fr to tm ix it cm y e)) hd
    have hT : (entF (numsT (msgN k fr to tm ix it cm y e)) e ++ d).size ≤ 1152921504606900000 := by rw [ByteArray.size_append]; omega
    have hF := fixS_le (crcN (entF (numsT (msgN k fr to tm ix it cm y e)) e ++ d)) 4
    have hq := crcN_rng (entF (numsT (msgN k fr to tm ix it cm y e)) e ++ d)
    have hX := c55_eq (n := crcN (entF (numsT (msgN k fr to tm ix it cm y e)) e ++ d)) (w := 4) (by omega)
    have hv0 := varS_le k
    have hv1 := varS_le fr
    have hv2 := varS_le to
    have hv3 := varS_le tm
    have hv4 := varS_le ix
    have hv5 := varS_le it
    have hv6 := varS_le cm
    have hv7 := varS_le (bI y)
    have hv8 := varS_le e.length
    simp (maxSteps := 1000000) (disch := omega) only [go_sem, wI, wB, x17, r17_0, r17_1, r17_2, r17_3v, r17_3t, r17_4, r17_5, r17_7v, r17_7t, r17_6, r17_8, r17_9, Root.isRef, Int.toNat_natCast, natS1, natS2, rowsE_at, rowsE_get, rowsE_length, Nat.mul_one, Nat.div_one, Nat.mod_one, hitG, Root.inRng, ↓ownize_c, ownC_al, ownD_some, ↓moveOut_slot, moveC_own, ↓rootCell_slot, ↓rootCell_ref, ↓setRoot_slot, ↓setRoot_ref, hM, hC, hX, hk]
    repeat' (first | ((with_reducible apply scEnd_of); exact rfl; exact rfl) | ((with_reducible apply ScW_of); rfl; rfl; trivial; (intro h; try simp only [HS] at h)) | ((with_reducible apply Br_of) <;> (intro h; (try simp only [h]); (try simp only [HS] at h))) | ((with_reducible first | refine Opt_put_if ?_ ?_ | refine Opt_if ?_ ?_ | refine Opt_bind_if ?_ ?_ | refine Opt_ifb ?_ ?_); (· (first | omega | (refine ⟨?_, ?_⟩ <;> omega) | (refine ⟨?_, ?_, ?_⟩ <;> omega) | (refine ⟨rfl, ?_⟩; simp only [okBig, Bool.and_eq_true, decide_eq_true_eq]; omega) | (refine Nat.le_trans (Nat.add_le_add_left (varS_le _) _) ?_; simp only [size_strOfNums, List.length_cons, List.length_nil, rowsE_length, ByteArray.size_append]; omega) | (refine ⟨rfl, ?_⟩; simp only [okBig, Bool.and_eq_true, decide_eq_true_eq, size_strOfNums, List.length_cons, List.length_nil, rowsE_length, ByteArray.size_append]; omega) | (simp only [size_strOfNums, List.length_cons, List.length_nil, rowsE_length, ByteArray.size_append]; omega)))) | ((with_reducible refine Opt_bind_ifn ?_ ?_); (· omega)) | simp (maxSteps := 1000000) (disch := omega) only [go_sem, wI, wB, Root.isRef, Int.toNat_natCast, natS1, natS2, rowsE_at, rowsE_get, rowsE_length, Nat.mul_one, Nat.div_one, Nat.mod_one, hitG, Root.inRng, ↓ownize_c, ownC_al, ownD_some, ↓moveOut_slot, moveC_own, ↓rootCell_slot, ↓rootCell_ref, ↓setRoot_slot, ↓setRoot_ref, hM, hC, hX, hk])
    · refine LoopK_of (α := Nat) (fun p => ⟨[(4, i64 p), (3, ⟨.one, [.str (entF (numsT (msgN k fr to tm ix it cm y e)) (e.take p))]⟩), (1, ⟨.one, [.ptr 1 0]⟩)], [(1, [.int .i64 k, .int .i64 fr, .int .i64 to, .int .i64 tm, .int .i64 ix, .int .i64 it, .int .i64 cm, .bool y, .ro 2 (rowsE e), .str d])], [(0, ⟨.agg, [.int .i64 k, .int .i64 fr, .int .i64 to, .int .i64 tm, .int .i64 ix, .int .i64 it, .int .i64 cm, .bool y, .ro 2 (rowsE e), .str d]⟩)]⟩) (fun p => p ≤ e.length) (fun p => e.length - p) 0 ?h0 (Nat.zero_le _) ?_
      case h0 => rw [show entF (numsT (msgN k fr to tm ix it cm y e)) (e.take 0) = ⟨#[]⟩ ++ varS k ++ varS fr ++ varS to ++ varS tm ++ varS ix ++ varS it ++ varS cm ++ varS (bI y) ++ varS e.length from rfl, empty_app]; rfl
      intro j hj
      by_cases hx : j < e.length
      · have hz := hd _ (getD_mem eZ hx)
        have hs2 := entF_le (e.take j) (numsT (msgN k fr to tm ix it cm y e)) fun p hp => hd p (List.mem_of_mem_take hp)
        rw [List.length_take] at hs2
        have hv := varS_le (e.getD j eZ).1
        have hv2 := varS_le (e.getD j eZ).2.size
        simp (maxSteps := 1000000) (disch := omega) only [go_sem, wI, wB, x17, r17_0, r17_1, r17_2, r17_3v, r17_3t, r17_4, r17_5, r17_7v, r17_7t, r17_6, r17_8, r17_9, Root.isRef, Int.toNat_natCast, natS1, natS2, rowsE_at, rowsE_get, rowsE_length, Nat.mul_one, Nat.div_one, Nat.mod_one, hitG, Root.inRng, ↓ownize_c, ownC_al, ownD_some, ↓moveOut_slot, moveC_own, ↓rootCell_slot, ↓rootCell_ref, ↓setRoot_slot, ↓setRoot_ref, hM, hC, hX]
        repeat' (first | ((with_reducible apply scEnd_of); exact rfl; exact rfl) | ((with_reducible apply ScW_of); rfl; rfl; trivial; (intro h; try simp only [HS] at h)) | ((with_reducible apply Br_of) <;> (intro h; (try simp only [h]); (try simp only [HS] at h))) | ((with_reducible first | refine Opt_put_if ?_ ?_ | refine Opt_if ?_ ?_ | refine Opt_bind_if ?_ ?_ | refine Opt_ifb ?_ ?_); (· (first | omega | (refine ⟨?_, ?_⟩ <;> omega) | (refine ⟨?_, ?_, ?_⟩ <;> omega) | (refine ⟨rfl, ?_⟩; simp only [okBig, Bool.and_eq_true, decide_eq_true_eq]; omega) | (refine Nat.le_trans (Nat.add_le_add_left (varS_le _) _) ?_; simp only [size_strOfNums, List.length_cons, List.length_nil, rowsE_length, ByteArray.size_append]; omega) | (refine ⟨rfl, ?_⟩; simp only [okBig, Bool.and_eq_true, decide_eq_true_eq, size_strOfNums, List.length_cons, List.length_nil, rowsE_length, ByteArray.size_append]; omega) | (simp only [size_strOfNums, List.length_cons, List.length_nil, rowsE_length, ByteArray.size_append]; omega)))) | ((with_reducible refine Opt_bind_ifn ?_ ?_); (· omega)) | simp (maxSteps := 1000000) (disch := omega) only [go_sem, wI, wB, Root.isRef, Int.toNat_natCast, natS1, natS2, rowsE_at, rowsE_get, rowsE_length, Nat.mul_one, Nat.div_one, Nat.mod_one, hitG, Root.inRng, ↓ownize_c, ownC_al, ownD_some, ↓moveOut_slot, moveC_own, ↓rootCell_slot, ↓rootCell_ref, ↓setRoot_slot, ↓setRoot_ref, hM, hC, hX])
        all_goals (try (exfalso; omega))
        · rw [ByteArray.append_assoc, ByteArray.append_assoc, ← entF_snoc _ _ (e.getD j eZ), ← take_snocZ eZ (by omega)]
          exact LoopQ_of (j + 1) rfl (by omega) (by omega)
      · rw [List.take_of_length_le (by omega)]
        simp (maxSteps := 1000000) (disch := omega) only [go_sem, wI, wB, x17, r17_0, r17_1, r17_2, r17_3v, r17_3t, r17_4, r17_5, r17_7v, r17_7t, r17_6, r17_8, r17_9, Root.isRef, Int.toNat_natCast, natS1, natS2, rowsE_at, rowsE_get, rowsE_length, Nat.mul_one, Nat.div_one, Nat.mod_one, hitG, Root.inRng, ↓ownize_c, ownC_al, ownD_some, ↓moveOut_slot, moveC_own, ↓rootCell_slot, ↓rootCell_ref, ↓setRoot_slot, ↓setRoot_ref, hM, hC, hX]
        repeat' (first | ((with_reducible apply scEnd_of); exact rfl; exact rfl) | ((with_reducible apply ScW_of); rfl; rfl; trivial; (intro h; try simp only [HS] at h)) | ((with_reducible apply Br_of) <;> (intro h; (try simp only [h]); (try simp only [HS] at h))) | ((with_reducible first | refine Opt_put_if ?_ ?_ | refine Opt_if ?_ ?_ | refine Opt_bind_if ?_ ?_ | refine Opt_ifb ?_ ?_); (· (first | omega | (refine ⟨?_, ?_⟩ <;> omega) | (refine ⟨?_, ?_, ?_⟩ <;> omega) | (refine ⟨rfl, ?_⟩; simp only [okBig, Bool.and_eq_true, decide_eq_true_eq]; omega) | (refine Nat.le_trans (Nat.add_le_add_left (varS_le _) _) ?_; simp only [size_strOfNums, List.length_cons, List.length_nil, rowsE_length, ByteArray.size_append]; omega) | (refine ⟨rfl, ?_⟩; simp only [okBig, Bool.and_eq_true, decide_eq_true_eq, size_strOfNums, List.length_cons, List.length_nil, rowsE_length, ByteArray.size_append]; omega) | (simp only [size_strOfNums, List.length_cons, List.length_nil, rowsE_length, ByteArray.size_append]; omega)))) | ((with_reducible refine Opt_bind_ifn ?_ ?_); (· omega)) | simp (maxSteps := 1000000) (disch := omega) only [go_sem, wI, wB, Root.isRef, Int.toNat_natCast, natS1, natS2, rowsE_at, rowsE_get, rowsE_length, Nat.mul_one, Nat.div_one, Nat.mod_one, hitG, Root.inRng, ↓ownize_c, ownC_al, ownD_some, ↓moveOut_slot, moveC_own, ↓rootCell_slot, ↓rootCell_ref, ↓setRoot_slot, ↓setRoot_ref, hM, hC, hX])
        all_goals (try (exfalso; omega))
        · rw [showM, if_pos hk]; rfl
  · simp (maxSteps := 1000000) (disch := omega) only [go_sem, wI, wB, x17, r17_0, r17_1, r17_2, r17_3v, r17_3t, r17_4, r17_5, r17_7v, r17_7t, r17_6, r17_8, r17_9, Root.isRef, Int.toNat_natCast, natS1, natS2, rowsE_at, rowsE_get, rowsE_length, Nat.mul_one, Nat.div_one, Nat.mod_one, hitG, Root.inRng, ↓ownize_c, ownC_al, ownD_some, ↓moveOut_slot, moveC_own, ↓rootCell_slot, ↓rootCell_ref, ↓setRoot_slot, ↓setRoot_ref, hM, hC, hk]
    repeat' (first | ((with_reducible apply scEnd_of); exact rfl; exact rfl) | ((with_reducible apply ScW_of); rfl; rfl; trivial; (intro h; try simp only [HS] at h)) | ((with_reducible apply Br_of) <;> (intro h; (try simp only [h]); (try simp only [HS] at h))) | ((with_reducible first | refine Opt_put_if ?_ ?_ | refine Opt_if ?_ ?_ | refine Opt_bind_if ?_ ?_ | refine Opt_ifb ?_ ?_); (· (first | omega | (refine ⟨?_, ?_⟩ <;> omega) | (refine ⟨?_, ?_, ?_⟩ <;> omega) | (refine ⟨rfl, ?_⟩; simp only [okBig, Bool.and_eq_true, decide_eq_true_eq]; omega) | (refine Nat.le_trans (Nat.add_le_add_left (varS_le _) _) ?_; simp only [size_strOfNums, List.length_cons, List.length_nil, rowsE_length, ByteArray.size_append]; omega) | (refine ⟨rfl, ?_⟩; simp only [okBig, Bool.and_eq_true, decide_eq_true_eq, size_strOfNums, List.length_cons, List.length_nil, rowsE_length, ByteArray.size_append]; omega) | (simp only [size_strOfNums, List.length_cons, List.length_nil, rowsE_length, ByteArray.size_append]; omega)))) | ((with_reducible refine Opt_bind_ifn ?_ ?_); (· omega)) | simp (maxSteps := 1000000) (disch := omega) only [go_sem, wI, wB, Root.isRef, Int.toNat_natCast, natS1, natS2, rowsE_at, rowsE_get, rowsE_length, Nat.mul_one, Nat.div_one, Nat.mod_one, hitG, Root.inRng, ↓ownize_c, ownC_al, ownD_some, ↓moveOut_slot, moveC_own, ↓rootCell_slot, ↓rootCell_ref, ↓setRoot_slot, ↓setRoot_ref, hM, hC, hk])
    rw [showM, if_neg hk]
noncomputable def c17 : List SV → Refs → Option (SV × List SV × Refs) := ctrOf (α := Int × Int × Int × Int × Int × Int × Int × Bool × (List EV) × ByteArray) (fun ⟨k, fr, to, tm, ix, it, cm, y, e, d⟩ => ((-9223372036854775808 ≤ fr ∧ fr ≤ 9223372036854775807) ∧ (-9223372036854775808 ≤ to ∧ to ≤ 9223372036854775807)) ∧ (e.length ≤ 1048576 ∧ d.size ≤ 1152921504606846976) ∧ (∀ p ∈ e, p.2.size ≤ 9223372036854775807)) (fun ⟨k, fr, to, tm, ix, it, cm, y, e, d⟩ => [⟨.agg, [.int .i64 k, .int .i64 fr, .int .i64 to, .int .i64 tm, .int .i64 ix, .int .i64 it, .int .i64 cm, .bool y, .ro 2 (rowsE e), .str d]⟩]) (fun ⟨k, fr, to, tm, ix, it, cm, y, e, d⟩ => []) (fun ⟨k, fr, to, tm, ix, it, cm, y, e, d⟩ => ⟨.one, [.str (showM k fr to tm ix it cm y e d)]⟩) (fun ⟨k, fr, to, tm, ix, it, cm, y, e, d⟩ => [⟨.agg, [.int .i64 k, .int .i64 fr, .int .i64 to, .int .i64 tm, .int .i64 ix, .int .i64 it, .int .i64 cm, .bool y, .ro 2 (rowsE e), .str d]⟩]) (fun ⟨k, fr, to, tm, ix, it, cm, y, e, d⟩ => [])
theorem ctr17 : Ctr Try.prog 17 c17 := ctrOf_ok k17 (fun ⟨k, fr, to, tm, ix, it, cm, y, e, d⟩ hyp => g17 _ _ _ _ _ _ _ _ _ _ hyp)
theorem c17_eq {k fr to tm ix it cm : Int} {y : Bool} {e : List EV} {d : ByteArray} (hyp : ((-9223372036854775808 ≤ fr ∧ fr ≤ 9223372036854775807) ∧ (-9223372036854775808 ≤ to ∧ to ≤ 9223372036854775807)) ∧ (e.length ≤ 1048576 ∧ d.size ≤ 1152921504606846976) ∧ (∀ p ∈ e, p.2.size ≤ 9223372036854775807)) : c17 [⟨.agg, [.int .i64 k, .int .i64 fr, .int .i64 to, .int .i64 tm, .int .i64 ix, .int .i64 it, .int .i64 cm, .bool y, .ro 2 (rowsE e), .str d]⟩] [] = some (⟨.one, [.str (showM k fr to tm ix it cm y e d)]⟩, [⟨.agg, [.int .i64 k, .int .i64 fr, .int .i64 to, .int .i64 tm, .int .i64 ix, .int .i64 it, .int .i64 cm, .bool y, .ro 2 (rowsE e), .str d]⟩], []) := ctrOf_eq (α := Int × Int × Int × Int × Int × Int × Int × Bool × (List EV) × ByteArray) (x := (k, fr, to, tm, ix, it, cm, y, e, d)) (by intro x y h1 h2; simp at h1 h2; first | exact h1 | (simp_all; done) | (ext <;> simp_all)) hyp

end Go.Eng

namespace Go.Eng
open Go

/-! ### Messages as texts -/
structure MsgV where
  k : Int
  fr : Int
  to : Int
  tm : Int
  ix : Int
  it : Int
  cm : Int
  y : Bool
  e : List EV
  d : ByteArray
noncomputable def MsgV.okB (m : MsgV) : Bool := msgB m.k m.fr m.to m.tm m.ix m.it m.cm m.y m.e m.d
def MsgV.zero : MsgV := ⟨0, 0, 0, 0, 0, 0, 0, false, [], ⟨#[]⟩⟩
def MsgV.txt (m : MsgV) : ByteArray := msgT m.k m.fr m.to m.tm m.ix m.it m.cm m.y m.e m.d
noncomputable def MsgV.show (m : MsgV) : ByteArray := showM m.k m.fr m.to m.tm m.ix m.it m.cm m.y m.e m.d
theorem runB_rng (high : Int) : ∀ (l : List EV) (low : Int), runB low high l = true → ∀ p ∈ l, 1 ≤ p.1 ∧ p.1 ≤ high
  | [], _, _ => by simp
  | e :: t, low, h => by
    simp only [runB, Bool.and_eq_true, decide_eq_true_eq] at h
    intro p hp
    rcases List.mem_cons.1 hp with rfl | hp
    · omega
    · exact runB_rng high t _ h.2 p hp
/-- The numbers of a message that may be said. -/
def MsgV.small (m : MsgV) : Prop := (0 ≤ m.k ∧ m.k ≤ 1000000) ∧ (0 ≤ m.fr ∧ m.fr ≤ 1000000) ∧ (0 ≤ m.to ∧ m.to ≤ 1000000) ∧ (0 ≤ m.tm ∧ m.tm ≤ 1000000) ∧ (0 ≤ m.ix ∧ m.ix ≤ 1000000) ∧ (0 ≤ m.it ∧ m.it ≤ 1000000) ∧ (0 ≤ m.cm ∧ m.cm ≤ 1000000) ∧
  m.e.length ≤ 4 ∧ ∀ p ∈ m.e, (0 ≤ p.1 ∧ p.1 ≤ 1000000) ∧ p.2.size ≤ 900
theorem okB_small {m : MsgV} (h : m.okB = true) : m.small := by
  have he := msgB_ent h
  unfold MsgV.okB at h
  rw [msgB_iff] at h
  have hr : ∀ p ∈ m.e, 0 ≤ p.1 ∧ p.1 ≤ 1000000 := by
    unfold msgP srvP at h
    rcases h with h | h | h | h | h | h | h
    · have h2 : m.e = [] := h.2.2.2.2.2.2.1
      rw [h2]; simp
    · have h2 : m.e = [] := h.2.2.2.2.2.1
      rw [h2]; simp
    · have h2 := h.2.2.1
      simp only [appB, Bool.and_eq_true, decide_eq_true_eq] at h2
      intro p hp
      have := runB_rng _ _ _ h2.1.2 p hp
      omega
    · have h2 : m.e = [] := h.2.2.2.2.2.1
      rw [h2]; simp
    · have h2 : m.e = [] := h.2.2.2.2.2.2.2
      rw [h2]; simp
    · have h2 : m.e = [] := h.2.2.2.2.2.2.2.2.2
      rw [h2]; simp
    · have h2 : m.e = [] := h.2.2.2.2.2.2.2.2.2
      rw [h2]; simp
  have hn : (0 ≤ m.k ∧ m.k ≤ 1000000) ∧ (0 ≤ m.fr ∧ m.fr ≤ 1000000) ∧ (0 ≤ m.to ∧ m.to ≤ 1000000) ∧ (0 ≤ m.tm ∧ m.tm ≤ 1000000) ∧ (0 ≤ m.ix ∧ m.ix ≤ 1000000) ∧ (0 ≤ m.it ∧ m.it ≤ 1000000) ∧ (0 ≤ m.cm ∧ m.cm ≤ 1000000) := by
    unfold msgP srvP placeP at h
    rcases h with h | h | h | h | h | h | h
    · omega
    · omega
    · have h2 := h.2.2.1
      simp only [appB, placeB, Bool.and_eq_true, decide_eq_true_eq] at h2
      omega
    · omega
    · omega
    · omega
    · omega
  exact ⟨hn.1, hn.2.1, hn.2.2.1, hn.2.2.2.1, hn.2.2.2.2.1, hn.2.2.2.2.2.1, hn.2.2.2.2.2.2, he.1, fun p hp => ⟨hr p hp, he.2 p hp⟩⟩
/-- The bytes of entries. -/
def entL : List EV → List Int
  | [] => []
  | p :: t => varL p.1.toNat ++ (varL p.2.size ++ (bytes p.2 ++ entL t))
theorem varS_bytes {x : Int} (h : 0 ≤ x) (h2 : x ≤ 1000000) : bytes (varS x) = varL x.toNat := by
  rw [varS_ok (by unfold okN; omega), bytes_str (varL_isB _)]
theorem entF_bytes : ∀ (l : List EV) (s : ByteArray), (∀ p ∈ l, (0 ≤ p.1 ∧ p.1 ≤ 1000000) ∧ p.2.size ≤ 900) → bytes (entF s l) = bytes s ++ entL l
  | [], s, _ => by simp [entF, entL]
  | p :: t, s, h => by
    have hp := h p (List.mem_cons_self ..)
    have ih := entF_bytes t (s ++ (varS p.1 ++ (varS p.2.size ++ p.2))) fun q hq => h q (List.mem_cons_of_mem _ hq)
    show bytes (entF (s ++ (varS p.1 ++ (varS p.2.size ++ p.2))) t) = _
    rw [ih, bytes_append, bytes_append, bytes_append, varS_bytes hp.1.1 hp.1.2, varS_bytes (by omega) (by omega), Int.toNat_natCast]
    simp [entL]
theorem txt_bytes {m : MsgV} (h : m.small) : bytes m.txt = varL m.k.toNat ++ (varL m.fr.toNat ++ (varL m.to.toNat ++ (varL m.tm.toNat ++ (varL m.ix.toNat ++ (varL m.it.toNat ++ (varL m.cm.toNat ++ (varL (bI m.y).toNat ++ (varL m.e.length ++ (entL m.e ++ bytes m.d))))))))) := by
  obtain ⟨h1, h2, h3, h4, h5, h6, h7, h8, h9⟩ := h
  have hb : 0 ≤ bI m.y ∧ bI m.y ≤ 1 := by unfold bI; split <;> omega
  unfold MsgV.txt msgT
  rw [bytes_append, entF_bytes _ _ h9]
  have e0 : bytes (numsT (msgN m.k m.fr m.to m.tm m.ix m.it m.cm m.y m.e)) = varL m.k.toNat ++ (varL m.fr.toNat ++ (varL m.to.toNat ++ (varL m.tm.toNat ++ (varL m.ix.toNat ++ (varL m.it.toNat ++ (varL m.cm.toNat ++ (varL (bI m.y).toNat ++ varL m.e.length))))))) := by
    show bytes ((⟨#[]⟩ : ByteArray) ++ varS m.k ++ varS m.fr ++ varS m.to ++ varS m.tm ++ varS m.ix ++ varS m.it ++ varS m.cm ++ varS (bI m.y) ++ varS m.e.length) = _
    rw [empty_app, bytes_append, bytes_append, bytes_append, bytes_append, bytes_append, bytes_append, bytes_append, bytes_append,
      varS_bytes h1.1 h1.2, varS_bytes h2.1 h2.2, varS_bytes h3.1 h3.2, varS_bytes h4.1 h4.2, varS_bytes h5.1 h5.2, varS_bytes h6.1 h6.2, varS_bytes h7.1 h7.2, varS_bytes hb.1 (by omega), varS_bytes (by omega) (by omega), Int.toNat_natCast]
    simp only [List.append_assoc]
  rw [e0]
  simp only [List.append_assoc]
/-- The message that a text is. -/
def MsgAt (s : ByteArray) (m : MsgV) : Prop := m.okB = true ∧ s = fixS (crcN m.txt) 4 ++ m.txt
theorem MsgAt.bytes4 {s : ByteArray} {m : MsgV} (h : MsgAt s m) : bytes s = fixL 4 (crcN m.txt).toNat ++ bytes m.txt := by
  have hc := crcN_rng m.txt
  rw [h.2, bytes_append, fixS4_bytes hc.1 hc.2]
/-- impl.reader.count. -/
def rdCount (r : Rd) (most : Int) : Int × Rd :=
  if ((rdNum r).2.ok && decide ((rdNum r).1 ≤ most)) = true then ((rdNum r).1, (rdNum r).2) else (0, ⟨(rdNum r).2.s, false⟩)
def rdEnts : Nat → Rd → List EV → List EV × Rd
  | 0, r, out => (out, r)
  | n + 1, r, out => rdEnts n (rdPiece (rdNum r).2).2 (out ++ [((rdNum r).1, (rdPiece (rdNum r).2).1)])
theorem rdEnts_app : ∀ (l : List EV) (s : ByteArray) (t : List Int) (out : List EV), (∀ p ∈ l, (0 ≤ p.1 ∧ p.1 ≤ 1000000) ∧ p.2.size ≤ 900) → bytes s = entL l ++ t → ∃ s', rdEnts l.length ⟨s, true⟩ out = (out ++ l, ⟨s', true⟩) ∧ bytes s' = t
  | [], s, t, out, _, h => ⟨s, by simp [rdEnts], by simpa [entL] using h⟩
  | p :: l, s, t, out, hl, h => by
    have hp := hl p (List.mem_cons_self ..)
    simp only [entL, List.append_assoc] at h
    obtain ⟨s1, a1, b1⟩ := rdNum_var (by unfold okN; omega) h
    obtain ⟨s2, a2, b2⟩ := rdPiece_app (by omega) b1
    obtain ⟨s3, a3, b3⟩ := rdEnts_app l s2 t (out ++ [p]) (fun q hq => hl q (List.mem_cons_of_mem _ hq)) b2
    refine ⟨s3, ?_, b3⟩
    simp only [List.length_cons, rdEnts, a1, a2]
    rw [a3]
    simp
/-- How impl reads a message. -/
def msgR (s : ByteArray) : MsgV × Rd :=
  let r0 : Rd := ⟨s.extract 4 s.size, true⟩
  let a1 := rdNum r0
  let a2 := rdNum a1.2
  let a3 := rdNum a2.2
  let a4 := rdNum a3.2
  let a5 := rdNum a4.2
  let a6 := rdNum a5.2
  let a7 := rdNum a6.2
  let a8 := rdNum a7.2
  let a9 := rdCount a8.2 4
  let a10 := rdEnts a9.1.toNat a9.2 []
  (⟨a1.1, a2.1, a3.1, a4.1, a5.1, a6.1, a7.1, decide (a8.1 = 1), a10.1, a10.2.s⟩, a10.2)
theorem msgR_of {s : ByteArray} {m : MsgV} (h : MsgAt s m) : (msgR s).1 = m ∧ (msgR s).2.ok = true := by
  have hs := okB_small h.1
  have hb := h.bytes4
  have hb0 : bytes (s.extract 4 s.size) = bytes m.txt := by
    rw [bytes_tail, hb, List.drop_left' (fixL_len 4 _)]
  rw [txt_bytes hs] at hb0
  obtain ⟨h1, h2, h3, h4, h5, h6, h7, h8, h9⟩ := hs
  have hy : 0 ≤ bI m.y ∧ bI m.y ≤ 1 := by unfold bI; split <;> omega
  obtain ⟨s1, a1, b1⟩ := rdNum_var (by unfold okN; omega) hb0
  obtain ⟨s2, a2, b2⟩ := rdNum_var (by unfold okN; omega) b1
  obtain ⟨s3, a3, b3⟩ := rdNum_var (by unfold okN; omega) b2
  obtain ⟨s4, a4, b4⟩ := rdNum_var (by unfold okN; omega) b3
  obtain ⟨s5, a5, b5⟩ := rdNum_var (by unfold okN; omega) b4
  obtain ⟨s6, a6, b6⟩ := rdNum_var (by unfold okN; omega) b5
  obtain ⟨s7, a7, b7⟩ := rdNum_var (by unfold okN; omega) b6
  obtain ⟨s8, a8, b8⟩ := rdNum_var (by unfold okN; omega) b7
  obtain ⟨s9, a9, b9⟩ := rdNum_var (n := (m.e.length : Int)) (by unfold okN; omega) (by rw [Int.toNat_natCast]; exact b8)
  obtain ⟨s10, a10, b10⟩ := rdEnts_app m.e s9 (bytes m.d) [] h9 b9
  have hc : rdCount ⟨s8, true⟩ 4 = ((m.e.length : Int), ⟨s9, true⟩) := by
    unfold rdCount
    rw [a9]
    simp only [Bool.true_and, decide_eq_true_eq]
    rw [if_pos (by omega)]
  have hbi : decide (bI m.y = 1) = m.y := by cases m.y <;> rfl
  unfold msgR
  simp only [a1, a2, a3, a4, a5, a6, a7, a8, hc, Int.toNat_natCast, a10, List.nil_append, hbi]
  have e : s10 = m.d := str_inj b10
  rw [e]
  exact ⟨rfl, trivial⟩
theorem MsgAt.uniq {s : ByteArray} {o o' : MsgV} (h : MsgAt s o) (h' : MsgAt s o') : o = o' := by rw [← (msgR_of h).1, (msgR_of h').1]
open Classical in
noncomputable def rmsg (s : ByteArray) : MsgV × Bool := if h : ∃ m, MsgAt s m then (Classical.choose h, true) else (MsgV.zero, false)
theorem rmsg_cases (s : ByteArray) : (∃ m, MsgAt s m ∧ rmsg s = (m, true)) ∨ ((∀ m, ¬MsgAt s m) ∧ rmsg s = (MsgV.zero, false)) := by
  unfold rmsg
  by_cases h : ∃ m, MsgAt s m
  · rw [dif_pos h]; exact .inl ⟨_, Classical.choose_spec h, rfl⟩
  · rw [dif_neg h]; exact .inr ⟨fun o ho => h ⟨o, ho⟩, rfl⟩
theorem show_at {s : ByteArray} {m : MsgV} (h : m.show = s) (hs : s ≠ ⟨#[]⟩) : MsgAt s m := by
  unfold MsgV.show showM at h
  split at h
  · rename_i hk; exact ⟨hk, h.symm⟩
  · exact absurd h.symm hs
theorem show_of {s : ByteArray} {m : MsgV} (h : MsgAt s m) : m.show = s := by unfold MsgV.show showM; rw [if_pos (show msgB _ _ _ _ _ _ _ _ _ _ = true from h.1)]; exact h.2.symm
theorem MsgAt.size4 {s : ByteArray} {m : MsgV} (h : MsgAt s m) : 4 ≤ s.size := by
  have := congrArg List.length h.bytes4
  rw [bytes_length, List.length_append, fixL_len] at this
  omega
/-- impl.ReadMsg's answer. -/
theorem rmsgI_eq (s : ByteArray) : rmsg s = if 4 ≤ s.size ∧ (msgR s).2.ok = true ∧ (msgR s).1.show = s then ((msgR s).1, true) else (MsgV.zero, false) := by
  rcases rmsg_cases s with ⟨o, h, e⟩ | ⟨h, e⟩
  · rw [e]
    obtain ⟨h1, h2⟩ := msgR_of h
    rw [h1, if_pos ⟨h.size4, h2, show_of h⟩]
  · rw [e]
    split
    · rename_i hc
      have hs : s ≠ ⟨#[]⟩ := by
        rintro rfl
        have e2 : (⟨#[]⟩ : ByteArray).size = 0 := rfl
        rw [e2] at hc; omega
      exact absurd (show_at hc.2.2 hs) (h _)
    · rfl
end Go.Eng

namespace Go.Eng
open Go

/-- spec.l14Piece. -/
def pieceA (s : ByteArray) (a : Nat) : ByteArray × Int :=
  if finV s.size (varsO 1 ((bytes s).drop a)) < 0 ∨ (s.size : Int) - finV s.size (varsO 1 ((bytes s).drop a)) < (varsV 1 ((bytes s).drop a)).getD 0 0 then (⟨#[]⟩, -1)
  else (s.extract (finV s.size (varsO 1 ((bytes s).drop a))).toNat (finV s.size (varsO 1 ((bytes s).drop a)) + (varsV 1 ((bytes s).drop a)).getD 0 0).toNat, finV s.size (varsO 1 ((bytes s).drop a)) + (varsV 1 ((bytes s).drop a)).getD 0 0)
def spE (s : ByteArray) : Nat → Nat → List EV → Option (List EV × Nat)
  | 0, a, out => some (out, a)
  | n + 1, a, out =>
    if finV s.size (varsO 1 ((bytes s).drop a)) < 0 then none
    else if (pieceA s (finV s.size (varsO 1 ((bytes s).drop a))).toNat).2 < 0 then none
    else spE s n (pieceA s (finV s.size (varsO 1 ((bytes s).drop a))).toNat).2.toNat (out ++ [((varsV 1 ((bytes s).drop a)).getD 0 0, (pieceA s (finV s.size (varsO 1 ((bytes s).drop a))).toNat).1)])
def smsgR (s : ByteArray) : Option MsgV :=
  if finV s.size (varsO 9 ((bytes s).drop 4)) < 0 ∨ 4 < (varsV 9 ((bytes s).drop 4)).getD 8 0 then none
  else match spE s ((varsV 9 ((bytes s).drop 4)).getD 8 0).toNat (finV s.size (varsO 9 ((bytes s).drop 4))).toNat [] with
    | some (l, a) => some ⟨(varsV 9 ((bytes s).drop 4)).getD 0 0, (varsV 9 ((bytes s).drop 4)).getD 1 0, (varsV 9 ((bytes s).drop 4)).getD 2 0, (varsV 9 ((bytes s).drop 4)).getD 3 0, (varsV 9 ((bytes s).drop 4)).getD 4 0, (varsV 9 ((bytes s).drop 4)).getD 5 0,
        (varsV 9 ((bytes s).drop 4)).getD 6 0, decide ((varsV 9 ((bytes s).drop 4)).getD 7 0 = 1), l, s.extract a s.size⟩
    | none => none
theorem fin_one {s : ByteArray} {a x : Nat} {t : List Int} (ha : a ≤ s.size) (hx : x ≤ 562949953421311) (h : (bytes s).drop a = varL x ++ t) :
    finV s.size (varsO 1 ((bytes s).drop a)) = ((a + (varL x).length : Nat) : Int) ∧ (varsV 1 ((bytes s).drop a)) = [(x : Int)] ∧ a + (varL x).length ≤ s.size ∧ (bytes s).drop (a + (varL x).length) = t := by
  have hl := congrArg List.length h
  rw [List.length_drop, bytes_length, List.length_append] at hl
  have v := varsO_one hx t
  rw [← h] at v
  refine ⟨?_, varsV_of _ _ _ _ v, by omega, by rw [← List.drop_drop, h, List.drop_left]⟩
  rw [v, finV]
  omega
theorem pieceA_app {s : ByteArray} {a : Nat} {p : ByteArray} {t : List Int} (ha : a ≤ s.size) (hp : p.size ≤ 562949953421311) (h : (bytes s).drop a = varL p.size ++ (bytes p ++ t)) :
    pieceA s a = (p, ((a + (varL p.size).length + p.size : Nat) : Int)) ∧ a + (varL p.size).length + p.size ≤ s.size ∧ (bytes s).drop (a + (varL p.size).length + p.size) = t := by
  obtain ⟨e1, e2, e3, e4⟩ := fin_one ha hp h
  have hl := congrArg List.length e4
  rw [List.length_drop, bytes_length, List.length_append, bytes_length] at hl
  unfold pieceA
  rw [e1, e2]
  simp only [List.getD_cons_zero]
  rw [if_neg (by omega)]
  refine ⟨?_, by omega, by rw [← List.drop_drop, e4, ← bytes_length, List.drop_left]⟩
  rw [show (((a + (varL p.size).length : Nat) : Int) + (p.size : Int)).toNat = a + (varL p.size).length + p.size by omega, Int.toNat_natCast]
  congr 1
  apply str_inj
  rw [bytes_extract, List.drop_take, e4, show a + (varL p.size).length + p.size - (a + (varL p.size).length) = (bytes p).length by rw [bytes_length]; omega, List.take_left]
theorem spE_app {s : ByteArray} : ∀ (l : List EV) (a : Nat) (t : List Int) (out : List EV), a ≤ s.size → (∀ p ∈ l, (0 ≤ p.1 ∧ p.1 ≤ 1000000) ∧ p.2.size ≤ 900) → (bytes s).drop a = entL l ++ t →
    ∃ b, spE s l.length a out = some (out ++ l, b) ∧ b ≤ s.size ∧ (bytes s).drop b = t
  | [], a, t, out, ha, _, h => ⟨a, by simp [spE], ha, by simpa [entL] using h⟩
  | p :: l, a, t, out, ha, hl, h => by
    have hp := hl p (List.mem_cons_self ..)
    simp only [entL, List.append_assoc] at h
    obtain ⟨e1, e2, e3, e4⟩ := fin_one ha (by omega) h
    obtain ⟨f1, f2, f3⟩ := pieceA_app e3 (by omega) e4
    obtain ⟨b, g1, g2, g3⟩ := spE_app l _ t (out ++ [p]) f2 (fun q hq => hl q (List.mem_cons_of_mem _ hq)) f3
    refine ⟨b, ?_, g2, g3⟩
    simp only [List.length_cons, spE]
    rw [e1, e2, Int.toNat_natCast, f1]
    simp only [List.getD_cons_zero]
    rw [if_neg (by omega), if_neg (by omega), Int.toNat_natCast, Int.toNat_of_nonneg hp.1.1, g1]
    simp
theorem varsO_cons {n x : Nat} {t : List Int} (h : x ≤ 562949953421311) {v r : List Int} (ht : varsO n t = some (v, r)) : varsO (n + 1) (varL x ++ t) = some ((x : Int) :: v, r) := by
  simp only [varsO, rvO_var h, List.drop_left, ht]
theorem smsgR_of {s : ByteArray} {m : MsgV} (h : MsgAt s m) : smsgR s = some m := by
  have hs := okB_small h.1
  have hb := h.bytes4
  have h4 := h.size4
  have hb0 : (bytes s).drop 4 = bytes m.txt := by rw [hb, List.drop_left' (fixL_len 4 _)]
  rw [txt_bytes hs] at hb0
  obtain ⟨T, hT⟩ : ∃ T, T = entL m.e ++ bytes m.d := ⟨_, rfl⟩
  rw [← hT] at hb0
  obtain ⟨h1, h2, h3, h4', h5, h6, h7, h8, h9⟩ := hs
  have hy : 0 ≤ bI m.y ∧ bI m.y ≤ 1 := by unfold bI; split <;> omega
  have v0 : varsO 0 T = some ([], T) := rfl
  have v9 := varsO_cons (x := m.k.toNat) (by omega) (varsO_cons (x := m.fr.toNat) (by omega) (varsO_cons (x := m.to.toNat) (by omega) (varsO_cons (x := m.tm.toNat) (by omega) (varsO_cons (x := m.ix.toNat) (by omega)
    (varsO_cons (x := m.it.toNat) (by omega) (varsO_cons (x := m.cm.toNat) (by omega) (varsO_cons (x := (bI m.y).toNat) (by omega) (varsO_cons (x := m.e.length) (by omega) v0))))))))
  have hl := congrArg List.length hb0
  rw [List.length_drop, bytes_length] at hl
  rw [← hb0] at v9
  have w9 := varsV_of _ _ _ _ v9
  have hle : T.length ≤ s.size - 4 := by rw [hl]; simp only [List.length_append]; omega
  have hd : (bytes s).drop (s.size - T.length) = T := by
    have e1 : s.size - T.length = 4 + (s.size - 4 - T.length) := by omega
    rw [e1, ← List.drop_drop]
    have e2 : s.size - 4 - T.length = ((bytes s).drop 4).length - T.length := by rw [List.length_drop, bytes_length]
    rw [e2, hb0]
    simp only [← List.append_assoc]
    apply List.drop_left'
    simp only [List.length_append]; omega
  obtain ⟨b, g1, g2, g3⟩ := spE_app (s := s) m.e (s.size - T.length) (bytes m.d) [] (by omega) h9 (by rw [hd, hT])
  have hbi : decide (bI m.y = 1) = m.y := by cases m.y <;> rfl
  have hf : finV s.size (varsO 9 ((bytes s).drop 4)) = ((s.size - T.length : Nat) : Int) := by
    rw [v9, finV]; omega
  unfold smsgR
  rw [hf, w9]
  simp only [List.getD_cons_zero, List.getD_cons_succ, Int.toNat_natCast]
  rw [if_neg (by omega), g1]
  simp only [List.nil_append]
  have ed : s.extract b s.size = m.d := by apply str_inj; rw [bytes_tail, g3]
  rw [ed, show ((m.k.toNat : Nat) : Int) = m.k by omega, show ((m.fr.toNat : Nat) : Int) = m.fr by omega, show ((m.to.toNat : Nat) : Int) = m.to by omega, show ((m.tm.toNat : Nat) : Int) = m.tm by omega,
    show ((m.ix.toNat : Nat) : Int) = m.ix by omega, show ((m.it.toNat : Nat) : Int) = m.it by omega, show ((m.cm.toNat : Nat) : Int) = m.cm by omega, show (((bI m.y).toNat : Nat) : Int) = bI m.y by omega, hbi]
/-- spec.ReadMsg's answer. -/
theorem rmsgS_eq (s : ByteArray) : rmsg s = match smsgR s with
    | some m => if m.show = s then (m, true) else (MsgV.zero, false)
    | none => (MsgV.zero, false) := by
  rcases rmsg_cases s with ⟨o, h, e⟩ | ⟨h, e⟩
  · rw [e, smsgR_of h]
    simp only
    rw [if_pos (show_of h)]
  · rw [e]
    split
    · rename_i o ho
      split
      · rename_i hc
        have hs : s ≠ ⟨#[]⟩ := by
          rintro rfl
          have : smsgR ⟨#[]⟩ = none := by
            unfold smsgR
            have : varsO 9 ((bytes ⟨#[]⟩).drop 4) = none := rfl
            rw [this, finV, if_pos (by omega)]
          rw [this] at ho; simp at ho
        exact absurd (show_at hc hs) (h _)
      · rfl
    · rfl
end Go.Eng

namespace Go.Eng
open Go Go.Proofs

theorem sz109 : (#[109] : Array UInt8).size = 1 := rfl
theorem natD10 (n : Nat) : (n : Int) / 10 = ((n / 10 : Nat) : Int) := by omega
def mtx : Nat → Nat → ByteArray → ByteArray
  | 0, _, o => o
  | f + 1, k, o => if k = 0 then o else mtx f (k / 10) (strOfNums [48 + (k : Int) % 10] ++ o)
def markT (k : Int) : ByteArray := if k ≤ 0 then ⟨#[109, 48]⟩ else ⟨#[109]⟩ ++ mtx k.toNat k.toNat ⟨#[]⟩
theorem mtx_zero (f : Nat) (o : ByteArray) : mtx f 0 o = o := by cases f <;> simp [mtx]
theorem mtx_fuel : ∀ (f g k : Nat) (o : ByteArray), k ≤ f → k ≤ g → mtx f k o = mtx g k o
  | 0, g, k, o, h, _ => by rw [show k = 0 by omega, mtx_zero, mtx_zero]
  | f + 1, 0, k, o, _, h => by rw [show k = 0 by omega, mtx_zero, mtx_zero]
  | f + 1, g + 1, k, o, h, h2 => by
    simp only [mtx]
    split
    · rfl
    · exact mtx_fuel f g (k / 10) _ (by omega) (by omega)
theorem mtx_step {k : Nat} {o : ByteArray} (h : 0 < k) : mtx k k o = mtx (k / 10) (k / 10) (strOfNums [48 + (k : Int) % 10] ++ o) := by
  obtain ⟨f, rfl⟩ : ∃ f, k = f + 1 := ⟨k - 1, by omega⟩
  simp only [mtx]
  rw [if_neg (by omega)]
  exact mtx_fuel _ _ _ _ (by omega) (Nat.le_refl _)
theorem mtx_le : ∀ (f k : Nat) (o : ByteArray), (mtx f k o).size ≤ o.size + k
  | 0, k, o => by simp [mtx]
  | f + 1, k, o => by
    simp only [mtx]
    split
    · omega
    · have h := mtx_le f (k / 10) (strOfNums [48 + (k : Int) % 10] ++ o)
      rw [ByteArray.size_append, size_strOfNums] at h
      simp only [List.length_cons, List.length_nil] at h
      omega

theorem g82 (s : ByteArray) (ok : Bool) (m : Int) : Good Try.prog 82 [⟨.one, [.ptr 1000000 0]⟩, ⟨.one, [.int .i64 m]⟩] [(1000000, [.str s, .bool ok])] (⟨.one, [.int .i64 (rdCount ⟨s, ok⟩ m).1]⟩) [⟨.one, [.ptr 1000000 0]⟩, ⟨.one, [.int .i64 m]⟩] [(1000000, [.str (rdCount ⟨s, ok⟩ m).2.s, .bool (rdCount ⟨s, ok⟩ m).2.ok])] := by
  refine Good_of (E := envOf [(81, c81)]) (envOk_of ⟨ctr81, trivial⟩) Try.func82 m82 rfl ?_
  simp (maxSteps := 1000000) (disch := omega) only [go_sem, wI, wB, x82, r82_0, r82_1, r82_2, r82_3, r82_4, r82_5, Root.isRef, natD10, Int.tmod_eq_emod_of_nonneg, Int.tdiv_eq_ediv_of_nonneg, Int.toNat_natCast, natS1, natS2, rowsI_at, rowsI_at0, rowsI_get, rowsI_snoc, Nat.mul_one, Nat.div_one, Nat.mod_one]
  repeat' (first | ((with_reducible apply scEnd_of); exact rfl; exact rfl) | ((with_reducible apply ScW_of); rfl; rfl; trivial; (intro h; try simp only [HS] at h)) | ((with_reducible apply Br_of) <;> (intro h; (try simp only [h]); (try simp only [HS] at h))) | ((with_reducible first | refine Opt_put_if ?_ ?_ | refine Opt_if ?_ ?_ | refine Opt_bind_if ?_ ?_ | refine Opt_ifb ?_ ?_); (· (first | omega | (refine ⟨?_, ?_⟩ <;> omega) | (refine ⟨?_, ?_, ?_⟩ <;> omega) | (refine ⟨rfl, ?_⟩; simp only [okBig, Bool.and_eq_true, decide_eq_true_eq]; omega)))) | ((with_reducible refine Opt_bind_ifn ?_ ?_); (· omega)) | simp (maxSteps := 1000000) (disch := omega) only [go_sem, wI, wB, Root.isRef, natD10, Int.tmod_eq_emod_of_nonneg, Int.tdiv_eq_ediv_of_nonneg, Int.toNat_natCast, natS1, natS2, rowsI_at, rowsI_at0, rowsI_get, rowsI_snoc, Nat.mul_one, Nat.div_one, Nat.mod_one])
  · have e : ((rdNum ⟨s, ok⟩).2.ok && decide ((rdNum ⟨s, ok⟩).1 ≤ m)) = false := by
      rcases h with h | h
      · rw [h]; rfl
      · rw [decide_eq_false (by omega), Bool.and_false]
    rw [e]; unfold rdCount; rw [if_neg (by rw [e]; simp)]
  · have e : ((rdNum ⟨s, ok⟩).2.ok && decide ((rdNum ⟨s, ok⟩).1 ≤ m)) = true := by simp only [Bool.and_eq_true, decide_eq_true_eq]; omega
    unfold rdCount; rw [if_pos e, h.1, decide_eq_true h.2]; rfl
noncomputable def c82 : List SV → Refs → Option (SV × List SV × Refs)
  | [⟨.one, [.ptr 1000000 0]⟩, ⟨.one, [.int .i64 m]⟩], [(1000000, [.str s, .bool ok])] => some (⟨.one, [.int .i64 (rdCount ⟨s, ok⟩ m).1]⟩, [⟨.one, [.ptr 1000000 0]⟩, ⟨.one, [.int .i64 m]⟩], [(1000000, [.str (rdCount ⟨s, ok⟩ m).2.s, .bool (rdCount ⟨s, ok⟩ m).2.ok])])
  | _, _ => none
theorem ctr82 : Ctr Try.prog 82 c82 := by
  refine ⟨k82, fun args rf res args' rf' h => ?_⟩
  unfold c82 at h
  split at h
  · simp only [Option.some.injEq, Prod.mk.injEq] at h
    obtain ⟨rfl, rfl, rfl⟩ := h
    exact g82 _ _ _
  · simp at h
@[go_sem] theorem c82_eq {s : ByteArray} {ok : Bool} {m : Int} : c82 [⟨.one, [.ptr 1000000 0]⟩, ⟨.one, [.int .i64 m]⟩] [(1000000, [.str s, .bool ok])] = some (⟨.one, [.int .i64 (rdCount ⟨s, ok⟩ m).1]⟩, [⟨.one, [.ptr 1000000 0]⟩, ⟨.one, [.int .i64 m]⟩], [(1000000, [.str (rdCount ⟨s, ok⟩ m).2.s, .bool (rdCount ⟨s, ok⟩ m).2.ok])]) := rfl

theorem g80 (s : ByteArray) (a : Int) (hyp : s.size ≤ 1152921504606846976 ∧ 0 ≤ a ∧ a ≤ 1152921504606846976) : Good Try.prog 80 [⟨.one, [.str s]⟩, ⟨.one, [.int .i64 a]⟩] [] (⟨.tup [(false, 1), (false, 1)], [.str (pieceA s a.toNat).1, .int .i64 (pieceA s a.toNat).2]⟩) [⟨.one, [.str s]⟩, ⟨.one, [.int .i64 a]⟩] [] := by
  refine Good_of (E := envOf [(79, c79)]) (envOk_of ⟨ctr79, trivial⟩) Try.func80 m80 rfl ?_
  have f1 := fin_fact (n := 1) (z := s.size) (b := (bytes s).drop a.toNat) (isB_drop (isB_bytes s) _) (by rw [List.length_drop, bytes_length]; omega)
  have p1 : 0 ≤ (finV s.size (varsO 1 ((bytes s).drop a.toNat))) → 0 ≤ ((varsV 1 ((bytes s).drop a.toNat)).getD 0 0) := fun h => (f1 h).2.2 0
  have q1 := fun h => (f1 h).1
  have q3 := fun h => (f1 h).2.1
  clear f1
  simp (maxSteps := 1000000) (disch := omega) only [go_sem, wI, wB, x80, r80_0, r80_1, r80_2, r80_3, r80_4v, r80_4t, Root.isRef, natD10, Int.tmod_eq_emod_of_nonneg, Int.tdiv_eq_ediv_of_nonneg, Int.toNat_natCast, natS1, natS2, rowsI_at, rowsI_at0, rowsI_get, rowsI_snoc, Nat.mul_one, Nat.div_one, Nat.mod_one, c79_eq]
  repeat' (first | ((with_reducible apply scEnd_of); exact rfl; exact rfl) | ((with_reducible apply ScW_of); rfl; rfl; trivial; (intro h; try simp only [HS] at h)) | ((with_reducible apply Br_of) <;> (intro h; (try simp only [h]); (try simp only [HS] at h))) | ((with_reducible first | refine Opt_put_if ?_ ?_ | refine Opt_if ?_ ?_ | refine Opt_bind_if ?_ ?_ | refine Opt_ifb ?_ ?_); (· (first | omega | (refine ⟨?_, ?_⟩ <;> omega) | (refine ⟨?_, ?_, ?_⟩ <;> omega) | (refine ⟨rfl, ?_⟩; simp only [okBig, Bool.and_eq_true, decide_eq_true_eq]; omega)))) | ((with_reducible refine Opt_bind_ifn ?_ ?_); (· omega)) | simp (maxSteps := 1000000) (disch := omega) only [go_sem, wI, wB, Root.isRef, natD10, Int.tmod_eq_emod_of_nonneg, Int.tdiv_eq_ediv_of_nonneg, Int.toNat_natCast, natS1, natS2, rowsI_at, rowsI_at0, rowsI_get, rowsI_snoc, Nat.mul_one, Nat.div_one, Nat.mod_one, c79_eq])
  all_goals (try (exfalso; omega))
  · unfold pieceA; rw [if_pos h]
  · unfold pieceA; rw [if_neg (by omega)]
noncomputable def c80 : List SV → Refs → Option (SV × List SV × Refs)
  | [⟨.one, [.str s]⟩, ⟨.one, [.int .i64 a]⟩], [] => (open Classical in if s.size ≤ 1152921504606846976 ∧ 0 ≤ a ∧ a ≤ 1152921504606846976 then some (⟨.tup [(false, 1), (false, 1)], [.str (pieceA s a.toNat).1, .int .i64 (pieceA s a.toNat).2]⟩, [⟨.one, [.str s]⟩, ⟨.one, [.int .i64 a]⟩], []) else none)
  | _, _ => none
theorem ctr80 : Ctr Try.prog 80 c80 := by
  refine ⟨k80, fun args rf res args' rf' h => ?_⟩
  unfold c80 at h
  split at h
  · split at h
    · rename_i hyp
      simp only [Option.some.injEq, Prod.mk.injEq] at h
      obtain ⟨rfl, rfl, rfl⟩ := h
      exact g80 _ _ hyp
    · simp at h
  · simp at h
theorem c80_eq {s : ByteArray} {a : Int} (hyp : s.size ≤ 1152921504606846976 ∧ 0 ≤ a ∧ a ≤ 1152921504606846976) : c80 [⟨.one, [.str s]⟩, ⟨.one, [.int .i64 a]⟩] [] = some (⟨.tup [(false, 1), (false, 1)], [.str (pieceA s a.toNat).1, .int .i64 (pieceA s a.toNat).2]⟩, [⟨.one, [.str s]⟩, ⟨.one, [.int .i64 a]⟩], []) := if_pos hyp

theorem g118 (k : Int) (hyp : k ≤ 100000000) : Good Try.prog 118 [⟨.one, [.int .i64 k]⟩] [] (⟨.one, [.str (markT k)]⟩) [⟨.one, [.int .i64 k]⟩] [] := by
  refine Good_of (E := envOf []) (envOk_of trivial) Try.func118 m118 rfl ?_
  have e109 : (#[109] : Array UInt8).size = 1 := rfl
  simp (maxSteps := 1000000) (disch := omega) only [go_sem, wI, wB, x118, r118_0, r118_1, r118_2, r118_3, r118_4, r118_5, r118_6, r118_7, Root.isRef, natD10, Int.tmod_eq_emod_of_nonneg, Int.tdiv_eq_ediv_of_nonneg, Int.toNat_natCast, natS1, natS2, rowsI_at, rowsI_at0, rowsI_get, rowsI_snoc, Nat.mul_one, Nat.div_one, Nat.mod_one]
  repeat' (first | ((with_reducible apply scEnd_of); exact rfl; exact rfl) | ((with_reducible apply ScW_of); rfl; rfl; trivial; (intro h; try simp only [HS] at h)) | ((with_reducible apply Br_of) <;> (intro h; (try simp only [h]); (try simp only [HS] at h))) | ((with_reducible first | refine Opt_put_if ?_ ?_ | refine Opt_if ?_ ?_ | refine Opt_bind_if ?_ ?_ | refine Opt_ifb ?_ ?_); (· (first | omega | (refine ⟨?_, ?_⟩ <;> omega) | (refine ⟨?_, ?_, ?_⟩ <;> omega) | (refine ⟨rfl, ?_⟩; simp only [okBig, Bool.and_eq_true, decide_eq_true_eq]; omega) | (refine Nat.le_trans (Nat.add_le_add_left (varS_le _) _) ?_; simp only [size_strOfNums, List.length_cons, List.length_nil, rowsI_length, ByteArray.size_append]; omega) | (refine ⟨rfl, ?_⟩; simp only [okBig, Bool.and_eq_true, decide_eq_true_eq, size_strOfNums, List.length_cons, List.length_nil, rowsI_length, ByteArray.size_append]; omega) | (simp only [size_strOfNums, List.length_cons, List.length_nil, rowsI_length, ByteArray.size_append]; omega)))) | ((with_reducible refine Opt_bind_ifn ?_ ?_); (· omega)) | simp (maxSteps := 1000000) (disch := omega) only [go_sem, wI, wB, Root.isRef, natD10, Int.tmod_eq_emod_of_nonneg, Int.tdiv_eq_ediv_of_nonneg, Int.toNat_natCast, natS1, natS2, rowsI_at, rowsI_at0, rowsI_get, rowsI_snoc, Nat.mul_one, Nat.div_one, Nat.mod_one])
  · rw [markT, if_pos h]
  · refine LoopK_of (α := Nat × ByteArray) (fun p => ⟨[(3, ⟨.one, [.str p.2]⟩), (0, i64 p.1)], [], [(0, i64 k)]⟩) (fun p => p.1 + p.2.size ≤ 100000000 ∧ mtx p.1 p.1 p.2 = mtx k.toNat k.toNat ⟨#[]⟩) (fun p => p.1) (k.toNat, ⟨#[]⟩) ?h0 ⟨by simp only; have e2 : (⟨#[]⟩ : ByteArray).size = 0 := rfl; omega, rfl⟩ ?_
    case h0 => rw [show ((k.toNat : Nat) : Int) = k by omega]; rfl
    rintro ⟨n, o⟩ ⟨h1, h2⟩
    simp only at h1 h2
    simp (maxSteps := 1000000) (disch := omega) only [go_sem, wI, wB, x118, r118_0, r118_1, r118_2, r118_3, r118_4, r118_5, r118_6, r118_7, Root.isRef, natD10, Int.tmod_eq_emod_of_nonneg, Int.tdiv_eq_ediv_of_nonneg, Int.toNat_natCast, natS1, natS2, rowsI_at, rowsI_at0, rowsI_get, rowsI_snoc, Nat.mul_one, Nat.div_one, Nat.mod_one]
    repeat' (first | ((with_reducible apply scEnd_of); exact rfl; exact rfl) | ((with_reducible apply ScW_of); rfl; rfl; trivial; (intro h; try simp only [HS] at h)) | ((with_reducible apply Br_of) <;> (intro h; (try simp only [h]); (try simp only [HS] at h))) | ((with_reducible first | refine Opt_put_if ?_ ?_ | refine Opt_if ?_ ?_ | refine Opt_bind_if ?_ ?_ | refine Opt_ifb ?_ ?_); (· (first | omega | (refine ⟨?_, ?_⟩ <;> omega) | (refine ⟨?_, ?_, ?_⟩ <;> omega) | (refine ⟨rfl, ?_⟩; simp only [okBig, Bool.and_eq_true, decide_eq_true_eq]; omega) | (refine Nat.le_trans (Nat.add_le_add_left (varS_le _) _) ?_; simp only [size_strOfNums, List.length_cons, List.length_nil, rowsI_length, ByteArray.size_append]; omega) | (refine ⟨rfl, ?_⟩; simp only [okBig, Bool.and_eq_true, decide_eq_true_eq, size_strOfNums, List.length_cons, List.length_nil, rowsI_length, ByteArray.size_append]; omega) | (simp only [size_strOfNums, List.length_cons, List.length_nil, rowsI_length, ByteArray.size_append]; omega)))) | ((with_reducible refine Opt_bind_ifn ?_ ?_); (· omega)) | simp (maxSteps := 1000000) (disch := omega) only [go_sem, wI, wB, Root.isRef, natD10, Int.tmod_eq_emod_of_nonneg, Int.tdiv_eq_ediv_of_nonneg, Int.toNat_natCast, natS1, natS2, rowsI_at, rowsI_at0, rowsI_get, rowsI_snoc, Nat.mul_one, Nat.div_one, Nat.mod_one])
    all_goals (try (exfalso; omega))
    · refine LoopQ_of (n / 10, _) rfl ⟨?_, ?_⟩ (by simp only; omega)
      · simp only [ByteArray.size_append, size_strOfNums, List.length_cons, List.length_nil]; omega
      · exact (mtx_step (by omega)).symm.trans h2
    · rw [if_pos (by omega)]
      simp (maxSteps := 1000000) (disch := omega) only [go_sem, wI, wB, x118, r118_0, r118_1, r118_2, r118_3, r118_4, r118_5, r118_6, r118_7, Root.isRef, natD10, Int.tmod_eq_emod_of_nonneg, Int.tdiv_eq_ediv_of_nonneg, Int.toNat_natCast, natS1, natS2, rowsI_at, rowsI_at0, rowsI_get, rowsI_snoc, Nat.mul_one, Nat.div_one, Nat.mod_one]
      rw [show n = 0 by omega, mtx_zero] at h2
      rw [markT, if_neg (by omega), ← h2]
noncomputable def c118 : List SV → Refs → Option (SV × List SV × Refs)
  | [⟨.one, [.int .i64 k]⟩], [] => (open Classical in if k ≤ 100000000 then some (⟨.one, [.str (markT k)]⟩, [⟨.one, [.int .i64 k]⟩], []) else none)
  | _, _ => none
theorem ctr118 : Ctr Try.prog 118 c118 := by
  refine ⟨k118, fun args rf res args' rf' h => ?_⟩
  unfold c118 at h
  split at h
  · split at h
    · rename_i hyp
      simp only [Option.some.injEq, Prod.mk.injEq] at h
      obtain ⟨rfl, rfl, rfl⟩ := h
      exact g118 _ hyp
    · simp at h
  · simp at h
theorem c118_eq {k : Int} (hyp : k ≤ 100000000) : c118 [⟨.one, [.int .i64 k]⟩] [] = some (⟨.one, [.str (markT k)]⟩, [⟨.one, [.int .i64 k]⟩], []) := if_pos hyp

def mark1 (k : Int) : EV := (k, markT (k + 1))
def markE (k : Int) : Nat → List EV
  | 0 => []
  | n + 1 => markE k n ++ [mark1 (k + 2 * n)]
theorem markE_len (k : Int) : ∀ n, (markE k n).length = n
  | 0 => rfl
  | n + 1 => by simp [markE, markE_len k n]
theorem rowsE_set0 {l : List EV} {i : Nat} {a : Int} (h : i < l.length) : setCells 2 (rowsE l) (i * 2) [.int .i64 a] = rowsE (l.set i (a, (l.getD i eZ).2)) := by
  have := setCells_row (sz := 2) (i := i) [.int .i64 a] (rowsE l) 0 _ (rowsE_get h) rfl (by simp)
  rw [Nat.add_zero] at this
  rw [this]
  simp [rowsE, List.map_set]
theorem rowsE_set1 {l : List EV} {i : Nat} {b : ByteArray} (h : i < l.length) : setCells 2 (rowsE l) (i * 2 + 1) [.str b] = rowsE (l.set i ((l.getD i eZ).1, b)) := by
  have := setCells_row (sz := 2) (i := i) [.str b] (rowsE l) 1 _ (rowsE_get h) rfl (by simp)
  rw [this]
  simp [rowsE, List.map_set]
theorem mark_step {l : List EV} {k : Int} {i : Nat} (h : i < l.length) : (markE k i ++ l.drop i).set i (k + 2 * (i : Int), markT (k + 2 * (i : Int) + 1)) = markE k (i + 1) ++ l.drop (i + 1) := by
  rw [List.set_append_right _ _ (by rw [markE_len]; omega), markE_len, Nat.sub_self, drop_getD eZ h, List.set_cons_zero]
  simp [markE, mark1]
theorem set_getD {l : List EV} {i : Nat} {x : EV} (h : i < l.length) : (l.set i x).getD i eZ = x := by simp [List.getD, h]

theorem g84 (l : List EV) (k : Int) (hyp : l.length ≤ 1000000 ∧ 0 ≤ k ∧ k ≤ 1000000) : Good Try.prog 84 [⟨.one, [.own 2 (rowsE l)]⟩, ⟨.one, [.int .i64 k]⟩] [] (⟨.one, [.int .i64 (k + 2 * l.length)]⟩) [⟨.one, [.own 2 (rowsE (markE k l.length))]⟩, ⟨.one, [.int .i64 k]⟩] [] := by
  refine Good_of (E := envOf [(118, c118)]) (envOk_of ⟨ctr118, trivial⟩) Try.func84 m84 rfl ?_
  simp (maxSteps := 1000000) (disch := omega) only [go_sem, wI, wB, x84, r84_0, r84_1, r84_2, r84_4, r84_5, r84_6, r84_7, r84_3, r84_8, Root.isRef, lentAt, Nat.add_zero, Int.toNat_natCast, natS1, natS2, rowsE_at, rowsE_get, rowsE_length, Nat.mul_one, Nat.div_one, Nat.mod_one, hitG, Root.inRng, ↓ownize_c, ownC_al, ownD_some, ↓moveOut_slot, moveC_own, ↓rootCell_slot, ↓rootCell_ref, ↓setRoot_slot, ↓setRoot_ref, c118_eq]
  repeat' (first | ((with_reducible apply scEnd_of); exact rfl; exact rfl) | ((with_reducible apply ScW_of); rfl; rfl; trivial; (intro h; try simp only [HS] at h)) | ((with_reducible apply Br_of) <;> (intro h; (try simp only [h]); (try simp only [HS] at h))) | ((with_reducible first | refine Opt_put_if ?_ ?_ | refine Opt_if ?_ ?_ | refine Opt_bind_if ?_ ?_ | refine Opt_ifb ?_ ?_); (· (first | omega | (refine ⟨?_, ?_⟩ <;> omega) | (refine ⟨?_, ?_, ?_⟩ <;> omega) | (refine ⟨rfl, ?_⟩; simp only [okBig, Bool.and_eq_true, decide_eq_true_eq]; omega) | (refine Nat.le_trans (Nat.add_le_add_left (varS_le _) _) ?_; simp only [size_strOfNums, List.length_cons, List.length_nil, rowsE_length, ByteArray.size_append]; omega) | (refine ⟨rfl, ?_⟩; simp only [okBig, Bool.and_eq_true, decide_eq_true_eq, size_strOfNums, List.length_cons, List.length_nil, rowsE_length, ByteArray.size_append]; omega) | (simp only [size_strOfNums, List.length_cons, List.length_nil, rowsE_length, ByteArray.size_append]; omega)))) | ((with_reducible refine Opt_bind_ifn ?_ ?_); (· omega)) | simp (maxSteps := 1000000) (disch := omega) only [go_sem, wI, wB, Root.isRef, lentAt, Nat.add_zero, Int.toNat_natCast, natS1, natS2, rowsE_at, rowsE_get, rowsE_length, Nat.mul_one, Nat.div_one, Nat.mod_one, hitG, Root.inRng, ↓ownize_c, ownC_al, ownD_some, ↓moveOut_slot, moveC_own, ↓rootCell_slot, ↓rootCell_ref, ↓setRoot_slot, ↓setRoot_ref, c118_eq])
  refine LoopK_of (α := Nat) (fun p => ⟨[(5, i64 p), (1, ⟨.one, [.int .i64 (k + 2 * (p : Int))]⟩), (0, ⟨.one, [.al ⟨.gho 0 0, []⟩]⟩)], [], [(0, ⟨.one, [.own 2 (rowsE (markE k p ++ l.drop p))]⟩), (1, i64 k)]⟩) (fun p => p ≤ l.length) (fun p => l.length - p) 0 ?h0 (Nat.zero_le _) ?_
  case h0 => simp only [markE, List.nil_append, List.drop_zero, Int.natCast_zero, Int.mul_zero, Int.add_zero]; rfl
  intro i hi
  have hlen : (markE k i ++ l.drop i).length = l.length := by rw [List.length_append, markE_len, List.length_drop]; omega
  simp (maxSteps := 1000000) (disch := omega) only [go_sem, wI, wB, x84, r84_0, r84_1, r84_2, r84_4, r84_5, r84_6, r84_7, r84_3, r84_8, Root.isRef, lentAt, Nat.add_zero, Int.toNat_natCast, natS1, natS2, rowsE_at, rowsE_get, rowsE_length, Nat.mul_one, Nat.div_one, Nat.mod_one, hitG, Root.inRng, ↓ownize_c, ownC_al, ownD_some, ↓moveOut_slot, moveC_own, ↓rootCell_slot, ↓rootCell_ref, ↓setRoot_slot, ↓setRoot_ref, c118_eq, hlen]
  repeat' (first | ((with_reducible apply scEnd_of); exact rfl; exact rfl) | ((with_reducible apply ScW_of); rfl; rfl; trivial; (intro h; try simp only [HS] at h)) | ((with_reducible apply Br_of) <;> (intro h; (try simp only [h]); (try simp only [HS] at h))) | ((with_reducible first | refine Opt_put_if ?_ ?_ | refine Opt_if ?_ ?_ | refine Opt_bind_if ?_ ?_ | refine Opt_ifb ?_ ?_); (· (first | omega | (refine ⟨?_, ?_⟩ <;> omega) | (refine ⟨?_, ?_, ?_⟩ <;> omega) | (refine ⟨rfl, ?_⟩; simp only [okBig, Bool.and_eq_true, decide_eq_true_eq]; omega) | (refine Nat.le_trans (Nat.add_le_add_left (varS_le _) _) ?_; simp only [size_strOfNums, List.length_cons, List.length_nil, rowsE_length, ByteArray.size_append]; omega) | (refine ⟨rfl, ?_⟩; simp only [okBig, Bool.and_eq_true, decide_eq_true_eq, size_strOfNums, List.length_cons, List.length_nil, rowsE_length, ByteArray.size_append]; omega) | (simp only [size_strOfNums, List.length_cons, List.length_nil, rowsE_length, ByteArray.size_append]; omega)))) | ((with_reducible refine Opt_bind_ifn ?_ ?_); (· omega)) | simp (maxSteps := 1000000) (disch := omega) only [go_sem, wI, wB, Root.isRef, lentAt, Nat.add_zero, Int.toNat_natCast, natS1, natS2, rowsE_at, rowsE_get, rowsE_length, Nat.mul_one, Nat.div_one, Nat.mod_one, hitG, Root.inRng, ↓ownize_c, ownC_al, ownD_some, ↓moveOut_slot, moveC_own, ↓rootCell_slot, ↓rootCell_ref, ↓setRoot_slot, ↓setRoot_ref, c118_eq, hlen, rowsE_set0, rowsE_set1, List.length_set])
  all_goals (try (exfalso; omega))
  · rw [rowsE_set1 (by rw [List.length_set]; omega), set_getD (by omega), List.set_set, mark_step (by omega), show k + 2 * (i : Int) + 1 + 1 = k + 2 * ((i + 1 : Nat) : Int) by omega]
    exact LoopQ_of (i + 1) rfl (by omega) (by omega)
  · have e : i = l.length := by omega
    subst e
    rw [List.drop_length, List.append_nil]
noncomputable def c84 : List SV → Refs → Option (SV × List SV × Refs) := ctrOf (α := (List EV) × Int) (fun ⟨l, k⟩ => l.length ≤ 1000000 ∧ 0 ≤ k ∧ k ≤ 1000000) (fun ⟨l, k⟩ => [⟨.one, [.own 2 (rowsE l)]⟩, ⟨.one, [.int .i64 k]⟩]) (fun ⟨l, k⟩ => []) (fun ⟨l, k⟩ => ⟨.one, [.int .i64 (k + 2 * l.length)]⟩) (fun ⟨l, k⟩ => [⟨.one, [.own 2 (rowsE (markE k l.length))]⟩, ⟨.one, [.int .i64 k]⟩]) (fun ⟨l, k⟩ => [])
theorem ctr84 : Ctr Try.prog 84 c84 := ctrOf_ok k84 (fun ⟨l, k⟩ hyp => g84 _ _ hyp)
theorem c84_eq {l : List EV} {k : Int} (hyp : l.length ≤ 1000000 ∧ 0 ≤ k ∧ k ≤ 1000000) : c84 [⟨.one, [.own 2 (rowsE l)]⟩, ⟨.one, [.int .i64 k]⟩] [] = some (⟨.one, [.int .i64 (k + 2 * l.length)]⟩, [⟨.one, [.own 2 (rowsE (markE k l.length))]⟩, ⟨.one, [.int .i64 k]⟩], []) := ctrOf_eq (α := (List EV) × Int) (x := (l, k)) (by intro x y h1 h2; simp at h1 h2; first | exact h1 | (simp_all; done) | (ext <;> simp_all)) hyp

def heldE (k : Int) : List EV → Int
  | [] => k
  | p :: t => if p.1 = k ∧ p.2 = markT (k + 1) then heldE (k + 2) t else -1
theorem held_app (k : Int) : ∀ (n : Nat) (t : List EV), heldE k (markE k n ++ t) = heldE (k + 2 * n) t
  | 0, t => by simp [markE]
  | n + 1, t => by
    rw [markE, List.append_assoc, held_app k n]
    simp only [List.cons_append, List.nil_append, heldE, mark1]
    rw [if_pos (by simp), show k + 2 * (n : Int) + 2 = k + 2 * ((n + 1 : Nat) : Int) by omega]
theorem held_mark (k : Int) (n : Nat) : heldE k (markE k n) = k + 2 * n := by
  have := held_app k n []
  rw [List.append_nil] at this
  rw [this]; rfl
theorem held_no {k : Int} {l : List EV} {i : Nat} (h : i < l.length) (h2 : ¬((l.getD i eZ).1 = k ∧ (l.getD i eZ).2 = markT (k + 1))) : heldE k (l.drop i) = -1 := by
  rw [drop_getD eZ h, heldE, if_neg h2]
theorem held_yes {k : Int} {l : List EV} {i : Nat} (h : i < l.length) (h2 : (l.getD i eZ).1 = k ∧ (l.getD i eZ).2 = markT (k + 1)) : heldE k (l.drop i) = heldE (k + 2) (l.drop (i + 1)) := by
  rw [drop_getD eZ h, heldE, if_pos h2]

theorem g85 (l : List EV) (k : Int) (hyp : l.length ≤ 1000000 ∧ 0 ≤ k ∧ k ≤ 1000000) : Good Try.prog 85 [⟨.one, [.ro 2 (rowsE l)]⟩, ⟨.one, [.int .i64 k]⟩] [] (⟨.one, [.int .i64 (heldE k l)]⟩) [⟨.one, [.ro 2 (rowsE l)]⟩, ⟨.one, [.int .i64 k]⟩] [] := by
  refine Good_of (E := envOf [(118, c118)]) (envOk_of ⟨ctr118, trivial⟩) Try.func85 m85 rfl ?_
  simp (maxSteps := 1000000) (disch := omega) only [go_sem, wI, wB, x85, r85_0, r85_1, r85_2, r85_4, r85_5, r85_6, r85_7v, r85_7t, r85_8, r85_9, r85_3, r85_10, Root.isRef, lentAt, Nat.add_zero, Int.toNat_natCast, natS1, natS2, rowsE_at, rowsE_get, rowsE_length, Nat.mul_one, Nat.div_one, Nat.mod_one, hitG, Root.inRng, ↓ownize_c, ownC_al, ownD_some, ↓moveOut_slot, moveC_own, ↓rootCell_slot, ↓rootCell_ref, ↓setRoot_slot, ↓setRoot_ref, c118_eq]
  repeat' (first | ((with_reducible apply scEnd_of); exact rfl; exact rfl) | ((with_reducible apply ScW_of); rfl; rfl; trivial; (intro h; try simp only [HS] at h)) | ((with_reducible apply Br_of) <;> (intro h; (try simp only [h]); (try simp only [HS] at h))) | ((with_reducible first | refine Opt_put_if ?_ ?_ | refine Opt_if ?_ ?_ | refine Opt_bind_if ?_ ?_ | refine Opt_ifb ?_ ?_); (· (first | omega | (refine ⟨?_, ?_⟩ <;> omega) | (refine ⟨?_, ?_, ?_⟩ <;> omega) | (refine ⟨rfl, ?_⟩; simp only [okBig, Bool.and_eq_true, decide_eq_true_eq]; omega) | (refine Nat.le_trans (Nat.add_le_add_left (varS_le _) _) ?_; simp only [size_strOfNums, List.length_cons, List.length_nil, rowsE_length, ByteArray.size_append]; omega) | (refine ⟨rfl, ?_⟩; simp only [okBig, Bool.and_eq_true, decide_eq_true_eq, size_strOfNums, List.length_cons, List.length_nil, rowsE_length, ByteArray.size_append]; omega) | (simp only [size_strOfNums, List.length_cons, List.length_nil, rowsE_length, ByteArray.size_append]; omega)))) | ((with_reducible refine Opt_bind_ifn ?_ ?_); (· omega)) | simp (maxSteps := 1000000) (disch := omega) only [go_sem, wI, wB, Root.isRef, lentAt, Nat.add_zero, Int.toNat_natCast, natS1, natS2, rowsE_at, rowsE_get, rowsE_length, Nat.mul_one, Nat.div_one, Nat.mod_one, hitG, Root.inRng, ↓ownize_c, ownC_al, ownD_some, ↓moveOut_slot, moveC_own, ↓rootCell_slot, ↓rootCell_ref, ↓setRoot_slot, ↓setRoot_ref, c118_eq])
  refine LoopK_of (α := Nat) (fun p => ⟨[(5, i64 p), (1, ⟨.one, [.int .i64 (k + 2 * (p : Int))]⟩), (0, ⟨.one, [.ro 2 (rowsE l)]⟩)], [], [(0, ⟨.one, [.ro 2 (rowsE l)]⟩), (1, i64 k)]⟩) (fun p => p ≤ l.length ∧ heldE (k + 2 * (p : Int)) (l.drop p) = heldE k l) (fun p => l.length - p) 0 ?h0 ⟨Nat.zero_le _, by simp⟩ ?_
  case h0 => simp only [Int.natCast_zero, Int.mul_zero, Int.add_zero]; rfl
  rintro i ⟨h1, h2⟩
  simp (maxSteps := 1000000) (disch := omega) only [go_sem, wI, wB, x85, r85_0, r85_1, r85_2, r85_4, r85_5, r85_6, r85_7v, r85_7t, r85_8, r85_9, r85_3, r85_10, Root.isRef, lentAt, Nat.add_zero, Int.toNat_natCast, natS1, natS2, rowsE_at, rowsE_get, rowsE_length, Nat.mul_one, Nat.div_one, Nat.mod_one, hitG, Root.inRng, ↓ownize_c, ownC_al, ownD_some, ↓moveOut_slot, moveC_own, ↓rootCell_slot, ↓rootCell_ref, ↓setRoot_slot, ↓setRoot_ref, c118_eq]
  repeat' (first | ((with_reducible apply scEnd_of); exact rfl; exact rfl) | ((with_reducible apply ScW_of); rfl; rfl; trivial; (intro h; try simp only [HS] at h)) | ((with_reducible apply Br_of) <;> (intro h; (try simp only [h]); (try simp only [HS] at h))) | ((with_reducible first | refine Opt_put_if ?_ ?_ | refine Opt_if ?_ ?_ | refine Opt_bind_if ?_ ?_ | refine Opt_ifb ?_ ?_); (· (first | omega | (refine ⟨?_, ?_⟩ <;> omega) | (refine ⟨?_, ?_, ?_⟩ <;> omega) | (refine ⟨rfl, ?_⟩; simp only [okBig, Bool.and_eq_true, decide_eq_true_eq]; omega) | (refine Nat.le_trans (Nat.add_le_add_left (varS_le _) _) ?_; simp only [size_strOfNums, List.length_cons, List.length_nil, rowsE_length, ByteArray.size_append]; omega) | (refine ⟨rfl, ?_⟩; simp only [okBig, Bool.and_eq_true, decide_eq_true_eq, size_strOfNums, List.length_cons, List.length_nil, rowsE_length, ByteArray.size_append]; omega) | (simp only [size_strOfNums, List.length_cons, List.length_nil, rowsE_length, ByteArray.size_append]; omega)))) | ((with_reducible refine Opt_bind_ifn ?_ ?_); (· omega)) | simp (maxSteps := 1000000) (disch := omega) only [go_sem, wI, wB, Root.isRef, lentAt, Nat.add_zero, Int.toNat_natCast, natS1, natS2, rowsE_at, rowsE_get, rowsE_length, Nat.mul_one, Nat.div_one, Nat.mod_one, hitG, Root.inRng, ↓ownize_c, ownC_al, ownD_some, ↓moveOut_slot, moveC_own, ↓rootCell_slot, ↓rootCell_ref, ↓setRoot_slot, ↓setRoot_ref, c118_eq])
  all_goals (try (exfalso; omega))
  · rw [← h2, held_no (by omega) (fun hh => h hh.1)]
  · rw [← h2, held_no (by omega) (fun hh => h hh.2)]
  · rename_i hx hy
    rw [held_yes (by omega) ⟨hy, h⟩] at h2
    rw [show k + 2 * (i : Int) + 1 + 1 = k + 2 * ((i + 1 : Nat) : Int) by omega]
    refine LoopQ_of (i + 1) rfl ⟨by omega, ?_⟩ (by omega)
    rw [← h2, show k + 2 * (i : Int) + 2 = k + 2 * ((i + 1 : Nat) : Int) by omega]
  · rw [← h2, List.drop_of_length_le (by omega)]; rfl
noncomputable def c85 : List SV → Refs → Option (SV × List SV × Refs) := ctrOf (α := (List EV) × Int) (fun ⟨l, k⟩ => l.length ≤ 1000000 ∧ 0 ≤ k ∧ k ≤ 1000000) (fun ⟨l, k⟩ => [⟨.one, [.ro 2 (rowsE l)]⟩, ⟨.one, [.int .i64 k]⟩]) (fun ⟨l, k⟩ => []) (fun ⟨l, k⟩ => ⟨.one, [.int .i64 (heldE k l)]⟩) (fun ⟨l, k⟩ => [⟨.one, [.ro 2 (rowsE l)]⟩, ⟨.one, [.int .i64 k]⟩]) (fun ⟨l, k⟩ => [])
theorem ctr85 : Ctr Try.prog 85 c85 := ctrOf_ok k85 (fun ⟨l, k⟩ hyp => g85 _ _ hyp)
theorem c85_eq {l : List EV} {k : Int} (hyp : l.length ≤ 1000000 ∧ 0 ≤ k ∧ k ≤ 1000000) : c85 [⟨.one, [.ro 2 (rowsE l)]⟩, ⟨.one, [.int .i64 k]⟩] [] = some (⟨.one, [.int .i64 (heldE k l)]⟩, [⟨.one, [.ro 2 (rowsE l)]⟩, ⟨.one, [.int .i64 k]⟩], []) := ctrOf_eq (α := (List EV) × Int) (x := (l, k)) (by intro x y h1 h2; simp at h1 h2; first | exact h1 | (simp_all; done) | (ext <;> simp_all)) hyp

theorem g26 (k fr to tm ix it cm : Int) (y : Bool) (e : List EV) (d : ByteArray) (n : Int) (hyp : e.length ≤ 1000000 ∧ 0 ≤ n ∧ n ≤ 1000000) : Good Try.prog 26 [⟨.agg, [.int .i64 k, .int .i64 fr, .int .i64 to, .int .i64 tm, .int .i64 ix, .int .i64 it, .int .i64 cm, .bool y, .own 2 (rowsE e), .str d]⟩, ⟨.one, [.int .i64 n]⟩] [] (⟨.one, [.int .i64 (n + 2 * e.length)]⟩) [⟨.agg, [.int .i64 k, .int .i64 fr, .int .i64 to, .int .i64 tm, .int .i64 ix, .int .i64 it, .int .i64 cm, .bool y, .own 2 (rowsE (markE n e.length)), .str d]⟩, ⟨.one, [.int .i64 n]⟩] [] := by
  refine Good_of (E := envOf [(84, c84)]) (envOk_of ⟨ctr84, trivial⟩) Try.func26 m26 rfl ?_
  simp (maxSteps := 1000000) (disch := omega) only [go_sem, wI, wB, x26, r26_0, r26_1, r26_2, Root.isRef, lentAt, Nat.add_zero, Int.toNat_natCast, natS1, natS2, rowsE_at, rowsE_get, rowsE_length, Nat.mul_one, Nat.div_one, Nat.mod_one, hitG, Root.inRng, ↓ownize_c, ownC_al, ownD_some, ↓moveOut_slot, moveC_own, ↓rootCell_slot, ↓rootCell_ref, ↓setRoot_slot, ↓setRoot_ref, c84_eq]
  repeat' (first | ((with_reducible apply scEnd_of); exact rfl; exact rfl) | ((with_reducible apply ScW_of); rfl; rfl; trivial; (intro h; try simp only [HS] at h)) | ((with_reducible apply Br_of) <;> (intro h; (try simp only [h]); (try simp only [HS] at h))) | ((with_reducible first | refine Opt_put_if ?_ ?_ | refine Opt_if ?_ ?_ | refine Opt_bind_if ?_ ?_ | refine Opt_ifb ?_ ?_); (· (first | omega | (refine ⟨?_, ?_⟩ <;> omega) | (refine ⟨?_, ?_, ?_⟩ <;> omega) | (refine ⟨rfl, ?_⟩; simp only [okBig, Bool.and_eq_true, decide_eq_true_eq]; omega) | (refine Nat.le_trans (Nat.add_le_add_left (varS_le _) _) ?_; simp only [size_strOfNums, List.length_cons, List.length_nil, rowsE_length, ByteArray.size_append]; omega) | (refine ⟨rfl, ?_⟩; simp only [okBig, Bool.and_eq_true, decide_eq_true_eq, size_strOfNums, List.length_cons, List.length_nil, rowsE_length, ByteArray.size_append]; omega) | (simp only [size_strOfNums, List.length_cons, List.length_nil, rowsE_length, ByteArray.size_append]; omega)))) | ((with_reducible refine Opt_bind_ifn ?_ ?_); (· omega)) | simp (maxSteps := 1000000) (disch := omega) only [go_sem, wI, wB, Root.isRef, lentAt, Nat.add_zero, Int.toNat_natCast, natS1, natS2, rowsE_at, rowsE_get, rowsE_length, Nat.mul_one, Nat.div_one, Nat.mod_one, hitG, Root.inRng, ↓ownize_c, ownC_al, ownD_some, ↓moveOut_slot, moveC_own, ↓rootCell_slot, ↓rootCell_ref, ↓setRoot_slot, ↓setRoot_ref, c84_eq])
noncomputable def c26 : List SV → Refs → Option (SV × List SV × Refs) := ctrOf (α := Int × Int × Int × Int × Int × Int × Int × Bool × (List EV) × ByteArray × Int) (fun ⟨k, fr, to, tm, ix, it, cm, y, e, d, n⟩ => e.length ≤ 1000000 ∧ 0 ≤ n ∧ n ≤ 1000000) (fun ⟨k, fr, to, tm, ix, it, cm, y, e, d, n⟩ => [⟨.agg, [.int .i64 k, .int .i64 fr, .int .i64 to, .int .i64 tm, .int .i64 ix, .int .i64 it, .int .i64 cm, .bool y, .own 2 (rowsE e), .str d]⟩, ⟨.one, [.int .i64 n]⟩]) (fun ⟨k, fr, to, tm, ix, it, cm, y, e, d, n⟩ => []) (fun ⟨k, fr, to, tm, ix, it, cm, y, e, d, n⟩ => ⟨.one, [.int .i64 (n + 2 * e.length)]⟩) (fun ⟨k, fr, to, tm, ix, it, cm, y, e, d, n⟩ => [⟨.agg, [.int .i64 k, .int .i64 fr, .int .i64 to, .int .i64 tm, .int .i64 ix, .int .i64 it, .int .i64 cm, .bool y, .own 2 (rowsE (markE n e.length)), .str d]⟩, ⟨.one, [.int .i64 n]⟩]) (fun ⟨k, fr, to, tm, ix, it, cm, y, e, d, n⟩ => [])
theorem ctr26 : Ctr Try.prog 26 c26 := ctrOf_ok k26 (fun ⟨k, fr, to, tm, ix, it, cm, y, e, d, n⟩ hyp => g26 _ _ _ _ _ _ _ _ _ _ _ hyp)
theorem c26_eq {k fr to tm ix it cm : Int} {y : Bool} {e : List EV} {d : ByteArray} {n : Int} (hyp : e.length ≤ 1000000 ∧ 0 ≤ n ∧ n ≤ 1000000) : c26 [⟨.agg, [.int .i64 k, .int .i64 fr, .int .i64 to, .int .i64 tm, .int .i64 ix, .int .i64 it, .int .i64 cm, .bool y, .own 2 (rowsE e), .str d]⟩, ⟨.one, [.int .i64 n]⟩] [] = some (⟨.one, [.int .i64 (n + 2 * e.length)]⟩, [⟨.agg, [.int .i64 k, .int .i64 fr, .int .i64 to, .int .i64 tm, .int .i64 ix, .int .i64 it, .int .i64 cm, .bool y, .own 2 (rowsE (markE n e.length)), .str d]⟩, ⟨.one, [.int .i64 n]⟩], []) := ctrOf_eq (α := Int × Int × Int × Int × Int × Int × Int × Bool × (List EV) × ByteArray × Int) (x := (k, fr, to, tm, ix, it, cm, y, e, d, n)) (by intro x y h1 h2; simp at h1 h2; first | exact h1 | (simp_all; done) | (ext <;> simp_all)) hyp

theorem g27 (k fr to tm ix it cm : Int) (y : Bool) (e : List EV) (d : ByteArray) (n : Int) (hyp : e.length ≤ 1000000 ∧ 0 ≤ n ∧ n ≤ 1000000) : Good Try.prog 27 [⟨.agg, [.int .i64 k, .int .i64 fr, .int .i64 to, .int .i64 tm, .int .i64 ix, .int .i64 it, .int .i64 cm, .bool y, .ro 2 (rowsE e), .str d]⟩, ⟨.one, [.int .i64 n]⟩] [] (⟨.one, [.int .i64 (if heldE n e < 0 then -1 else heldE n e)]⟩) [⟨.agg, [.int .i64 k, .int .i64 fr, .int .i64 to, .int .i64 tm, .int .i64 ix, .int .i64 it, .int .i64 cm, .bool y, .ro 2 (rowsE e), .str d]⟩, ⟨.one, [.int .i64 n]⟩] [] := by
  refine Good_of (E := envOf [(85, c85)]) (envOk_of ⟨ctr85, trivial⟩) Try.func27 m27 rfl ?_
  simp (maxSteps := 1000000) (disch := omega) only [go_sem, wI, wB, x27, r27_0, r27_1, r27_2, r27_3, r27_4, Root.isRef, lentAt, Nat.add_zero, Int.toNat_natCast, natS1, natS2, rowsE_at, rowsE_get, rowsE_length, Nat.mul_one, Nat.div_one, Nat.mod_one, hitG, Root.inRng, ↓ownize_c, ownC_al, ownD_some, ↓moveOut_slot, moveC_own, ↓rootCell_slot, ↓rootCell_ref, ↓setRoot_slot, ↓setRoot_ref, c85_eq]
  repeat' (first | ((with_reducible apply scEnd_of); exact rfl; exact rfl) | ((with_reducible apply ScW_of); rfl; rfl; trivial; (intro h; try simp only [HS] at h)) | ((with_reducible apply Br_of) <;> (intro h; (try simp only [h]); (try simp only [HS] at h))) | ((with_reducible first | refine Opt_put_if ?_ ?_ | refine Opt_if ?_ ?_ | refine Opt_bind_if ?_ ?_ | refine Opt_ifb ?_ ?_); (· (first | omega | (refine ⟨?_, ?_⟩ <;> omega) | (refine ⟨?_, ?_, ?_⟩ <;> omega) | (refine ⟨rfl, ?_⟩; simp only [okBig, Bool.and_eq_true, decide_eq_true_eq]; omega) | (refine Nat.le_trans (Nat.add_le_add_left (varS_le _) _) ?_; simp only [size_strOfNums, List.length_cons, List.length_nil, rowsE_length, ByteArray.size_append]; omega) | (refine ⟨rfl, ?_⟩; simp only [okBig, Bool.and_eq_true, decide_eq_true_eq, size_strOfNums, List.length_cons, List.length_nil, rowsE_length, ByteArray.size_append]; omega) | (simp only [size_strOfNums, List.length_cons, List.length_nil, rowsE_length, ByteArray.size_append]; omega)))) | ((with_reducible refine Opt_bind_ifn ?_ ?_); (· omega)) | simp (maxSteps := 1000000) (disch := omega) only [go_sem, wI, wB, Root.isRef, lentAt, Nat.add_zero, Int.toNat_natCast, natS1, natS2, rowsE_at, rowsE_get, rowsE_length, Nat.mul_one, Nat.div_one, Nat.mod_one, hitG, Root.inRng, ↓ownize_c, ownC_al, ownD_some, ↓moveOut_slot, moveC_own, ↓rootCell_slot, ↓rootCell_ref, ↓setRoot_slot, ↓setRoot_ref, c85_eq])
  · rw [if_pos h]
  · rw [if_neg (by omega)]
noncomputable def c27 : List SV → Refs → Option (SV × List SV × Refs) := ctrOf (α := Int × Int × Int × Int × Int × Int × Int × Bool × (List EV) × ByteArray × Int) (fun ⟨k, fr, to, tm, ix, it, cm, y, e, d, n⟩ => e.length ≤ 1000000 ∧ 0 ≤ n ∧ n ≤ 1000000) (fun ⟨k, fr, to, tm, ix, it, cm, y, e, d, n⟩ => [⟨.agg, [.int .i64 k, .int .i64 fr, .int .i64 to, .int .i64 tm, .int .i64 ix, .int .i64 it, .int .i64 cm, .bool y, .ro 2 (rowsE e), .str d]⟩, ⟨.one, [.int .i64 n]⟩]) (fun ⟨k, fr, to, tm, ix, it, cm, y, e, d, n⟩ => []) (fun ⟨k, fr, to, tm, ix, it, cm, y, e, d, n⟩ => ⟨.one, [.int .i64 (if heldE n e < 0 then -1 else heldE n e)]⟩) (fun ⟨k, fr, to, tm, ix, it, cm, y, e, d, n⟩ => [⟨.agg, [.int .i64 k, .int .i64 fr, .int .i64 to, .int .i64 tm, .int .i64 ix, .int .i64 it, .int .i64 cm, .bool y, .ro 2 (rowsE e), .str d]⟩, ⟨.one, [.int .i64 n]⟩]) (fun ⟨k, fr, to, tm, ix, it, cm, y, e, d, n⟩ => [])
theorem ctr27 : Ctr Try.prog 27 c27 := ctrOf_ok k27 (fun ⟨k, fr, to, tm, ix, it, cm, y, e, d, n⟩ hyp => g27 _ _ _ _ _ _ _ _ _ _ _ hyp)
theorem c27_eq {k fr to tm ix it cm : Int} {y : Bool} {e : List EV} {d : ByteArray} {n : Int} (hyp : e.length ≤ 1000000 ∧ 0 ≤ n ∧ n ≤ 1000000) : c27 [⟨.agg, [.int .i64 k, .int .i64 fr, .int .i64 to, .int .i64 tm, .int .i64 ix, .int .i64 it, .int .i64 cm, .bool y, .ro 2 (rowsE e), .str d]⟩, ⟨.one, [.int .i64 n]⟩] [] = some (⟨.one, [.int .i64 (if heldE n e < 0 then -1 else heldE n e)]⟩, [⟨.agg, [.int .i64 k, .int .i64 fr, .int .i64 to, .int .i64 tm, .int .i64 ix, .int .i64 it, .int .i64 cm, .bool y, .ro 2 (rowsE e), .str d]⟩, ⟨.one, [.int .i64 n]⟩], []) := ctrOf_eq (α := Int × Int × Int × Int × Int × Int × Int × Bool × (List EV) × ByteArray × Int) (x := (k, fr, to, tm, ix, it, cm, y, e, d, n)) (by intro x y h1 h2; simp at h1 h2; first | exact h1 | (simp_all; done) | (ext <;> simp_all)) hyp

end Go.Eng

namespace Go.Eng
open Go Go.Proofs

theorem rdNum_rng (r : Rd) : 0 ≤ (rdNum r).1 ∧ (rdNum r).1 ≤ 562949953421311 := by
  unfold rdNum
  split
  · have := rv_rng r.s; exact ⟨this.1, this.2.1⟩
  · exact ⟨Int.le_refl _, by omega⟩
theorem rdCount_rng (r : Rd) {m : Int} (hm : 0 ≤ m) : (0 ≤ (rdCount r m).1 ∧ (rdCount r m).1 ≤ m) ∧ (rdCount r m).2.s.size ≤ r.s.size := by
  have h := rdNum_rng r
  have h2 := rdNum_size r
  unfold rdCount
  split
  · rename_i hc
    simp only [Bool.and_eq_true, decide_eq_true_eq] at hc
    exact ⟨⟨h.1, hc.2⟩, h2⟩
  · exact ⟨⟨Int.le_refl _, hm⟩, h2⟩
theorem rdEnts_succ : ∀ (n : Nat) (r : Rd) (out : List EV), rdEnts (n + 1) r out = ((rdEnts n r out).1 ++ [((rdNum (rdEnts n r out).2).1, (rdPiece (rdNum (rdEnts n r out).2).2).1)], (rdPiece (rdNum (rdEnts n r out).2).2).2)
  | 0, r, out => rfl
  | n + 1, r, out => by
    show rdEnts (n + 1) _ _ = _
    rw [rdEnts_succ n]
    rfl
theorem rdEnts_size : ∀ (n : Nat) (r : Rd), (rdEnts n r []).1.length = n ∧ (∀ p ∈ (rdEnts n r []).1, p.2.size ≤ r.s.size) ∧ (rdEnts n r []).2.s.size ≤ r.s.size
  | 0, r => by simp [rdEnts]
  | n + 1, r => by
    obtain ⟨h1, h2, h3⟩ := rdEnts_size n r
    have h4 := rdNum_size (rdEnts n r []).2
    have h5 := rdPiece_size (rdNum (rdEnts n r []).2).2
    rw [rdEnts_succ]
    refine ⟨by simp [h1], fun p hp => ?_, by simp only; omega⟩
    rcases List.mem_append.1 hp with hp | hp
    · exact h2 p hp
    · rw [List.mem_singleton] at hp; subst hp; simp only; omega

theorem g25 (s : ByteArray) (hyp : s.size ≤ 1152921504606846976) : Good Try.prog 25 [⟨.one, [.str s]⟩] [] (⟨.tup [(true, 10), (false, 1)], [.int .i64 (rmsg s).1.k, .int .i64 (rmsg s).1.fr, .int .i64 (rmsg s).1.to, .int .i64 (rmsg s).1.tm, .int .i64 (rmsg s).1.ix, .int .i64 (rmsg s).1.it, .int .i64 (rmsg s).1.cm, .bool (rmsg s).1.y, .own 2 (rowsE (rmsg s).1.e), .str (rmsg s).1.d, .bool (rmsg s).2]⟩) [⟨.one, [.str s]⟩] [] := by
  refine Good_of (E := envOf [(81, c81), (83, c83), (82, c82), (18, c18)]) (envOk_of ⟨ctr81, ⟨ctr83, ⟨ctr82, ⟨ctr18, trivial⟩⟩⟩⟩) Try.func25 m25 rfl ?_
  simp (maxSteps := 1000000) (disch := omega) only [go_sem, wI, wB, x25, r25_0, r25_1, r25_2, r25_3, r25_4, r25_5, r25_6, r25_7, r25_8, r25_9, r25_10, r25_11, r25_12, r25_13, r25_14, r25_15, r25_16, r25_17, r25_18, r25_19, r25_20, r25_21, r25_22, r25_23, Root.isRef, lentAt, Rd_eta, Int.toNat_natCast, natS1, natS2, rowsE_at, rowsE_get, rowsE_length, rowsE_snoc, Nat.mul_one, Nat.div_one, Nat.mod_one, hitG, Root.inRng, ↓ownize_c, ownC_al, ownD_some, ↓moveOut_slot, moveC_own, ↓rootCell_slot, ↓rootCell_ref, ↓setRoot_slot, ↓setRoot_ref]
  repeat' (first | ((with_reducible apply scEnd_of); exact rfl; exact rfl) | ((with_reducible apply ScW_of); rfl; rfl; trivial; (intro h; try simp only [HS] at h)) | ((with_reducible apply Br_of) <;> (intro h; (try simp only [h]); (try simp only [HS] at h))) | ((with_reducible first | refine Opt_put_if ?_ ?_ | refine Opt_if ?_ ?_ | refine Opt_bind_if ?_ ?_ | refine Opt_ifb ?_ ?_); (· (first | omega | (refine ⟨?_, ?_⟩ <;> omega) | (refine ⟨?_, ?_, ?_⟩ <;> omega) | (refine ⟨rfl, ?_⟩; simp only [okBig, Bool.and_eq_true, decide_eq_true_eq]; omega) | (refine Nat.le_trans (Nat.add_le_add_left (varS_le _) _) ?_; simp only [size_strOfNums, List.length_cons, List.length_nil, rowsE_length, ByteArray.size_append]; omega) | (refine ⟨rfl, ?_⟩; simp only [okBig, Bool.and_eq_true, decide_eq_true_eq, size_strOfNums, List.length_cons, List.length_nil, rowsE_length, ByteArray.size_append]; omega) | (simp only [size_strOfNums, List.length_cons, List.length_nil, rowsE_length, ByteArray.size_append]; omega)))) | ((with_reducible refine Opt_bind_ifn ?_ ?_); (· omega)) | simp (maxSteps := 1000000) (disch := omega) only [go_sem, wI, wB, Root.isRef, lentAt, Rd_eta, Int.toNat_natCast, natS1, natS2, rowsE_at, rowsE_get, rowsE_length, rowsE_snoc, Nat.mul_one, Nat.div_one, Nat.mod_one, hitG, Root.inRng, ↓ownize_c, ownC_al, ownD_some, ↓moveOut_slot, moveC_own, ↓rootCell_slot, ↓rootCell_ref, ↓setRoot_slot, ↓setRoot_ref])
  · rw [rmsgI_eq, if_neg (by omega)]; rfl
  · have hzz := extract_le s 4 s.size
    have hz0 := rdNum_size (⟨s.extract 4 s.size, true⟩ : Rd)
    have hz1 := rdNum_size (rdNum (⟨s.extract 4 s.size, true⟩ : Rd)).2
    have hz2 := rdNum_size (rdNum (rdNum (⟨s.extract 4 s.size, true⟩ : Rd)).2).2
    have hz3 := rdNum_size (rdNum (rdNum (rdNum (⟨s.extract 4 s.size, true⟩ : Rd)).2).2).2
    have hz4 := rdNum_size (rdNum (rdNum (rdNum (rdNum (⟨s.extract 4 s.size, true⟩ : Rd)).2).2).2).2
    have hz5 := rdNum_size (rdNum (rdNum (rdNum (rdNum (rdNum (⟨s.extract 4 s.size, true⟩ : Rd)).2).2).2).2).2
    have hz6 := rdNum_size (rdNum (rdNum (rdNum (rdNum (rdNum (rdNum (⟨s.extract 4 s.size, true⟩ : Rd)).2).2).2).2).2).2
    have hz7 := rdNum_size (rdNum (rdNum (rdNum (rdNum (rdNum (rdNum (rdNum (⟨s.extract 4 s.size, true⟩ : Rd)).2).2).2).2).2).2).2
    have hc := rdCount_rng (rdNum (rdNum (rdNum (rdNum (rdNum (rdNum (rdNum (rdNum (⟨s.extract 4 s.size, true⟩ : Rd)).2).2).2).2).2).2).2).2 (m := 4) (by omega)
    simp only [] at hz0
    refine LoopK_of (α := Nat) (fun p => ⟨[(43, i64 p), (42, ⟨.one, [.int .i64 (rdCount (rdNum (rdNum (rdNum (rdNum (rdNum (rdNum (rdNum (rdNum (⟨s.extract 4 s.size, true⟩ : Rd)).2).2).2).2).2).2).2).2 4).1]⟩), (5, ⟨.one, [.ptr 5 0]⟩), (4, ⟨.one, [.ptr 14 0]⟩), (2, ⟨.one, [.ptr 2 0]⟩), (0, st1 s)], [(14, [.str (rdEnts p (rdCount (rdNum (rdNum (rdNum (rdNum (rdNum (rdNum (rdNum (rdNum (⟨s.extract 4 s.size, true⟩ : Rd)).2).2).2).2).2).2).2).2 4).2 []).2.s, .bool (rdEnts p (rdCount (rdNum (rdNum (rdNum (rdNum (rdNum (rdNum (rdNum (rdNum (⟨s.extract 4 s.size, true⟩ : Rd)).2).2).2).2).2).2).2).2 4).2 []).2.ok]), (5, [.int .i64 (rdNum (⟨s.extract 4 s.size, true⟩ : Rd)).1, .int .i64 (rdNum (rdNum (⟨s.extract 4 s.size, true⟩ : Rd)).2).1, .int .i64 (rdNum (rdNum (rdNum (⟨s.extract 4 s.size, true⟩ : Rd)).2).2).1, .int .i64 (rdNum (rdNum (rdNum (rdNum (⟨s.extract 4 s.size, true⟩ : Rd)).2).2).2).1, .int .i64 (rdNum (rdNum (rdNum (rdNum (rdNum (⟨s.extract 4 s.size, true⟩ : Rd)).2).2).2).2).1, .int .i64 (rdNum (rdNum (rdNum (rdNum (rdNum (rdNum (⟨s.extract 4 s.size, true⟩ : Rd)).2).2).2).2).2).1, .int .i64 (rdNum (rdNum (rdNum (rdNum (rdNum (rdNum (rdNum (⟨s.extract 4 s.size, true⟩ : Rd)).2).2).2).2).2).2).1, .bool (decide ((rdNum (rdNum (rdNum (rdNum (rdNum (rdNum (rdNum (rdNum (⟨s.extract 4 s.size, true⟩ : Rd)).2).2).2).2).2).2).2).1 = 1)), .own 2 (rowsE (rdEnts p (rdCount (rdNum (rdNum (rdNum (rdNum (rdNum (rdNum (rdNum (rdNum (⟨s.extract 4 s.size, true⟩ : Rd)).2).2).2).2).2).2).2).2 4).2 []).1), .str ⟨#[]⟩]), (2, [.int .i64 0, .int .i64 0, .int .i64 0, .int .i64 0, .int .i64 0, .int .i64 0, .int .i64 0, .bool false, .own 2 [], .str ⟨#[]⟩])], [(0, st1 s)]⟩) (fun p => p ≤ (rdCount (rdNum (rdNum (rdNum (rdNum (rdNum (rdNum (rdNum (rdNum (⟨s.extract 4 s.size, true⟩ : Rd)).2).2).2).2).2).2).2).2 4).1.toNat) (fun p => (rdCount (rdNum (rdNum (rdNum (rdNum (rdNum (rdNum (rdNum (rdNum (⟨s.extract 4 s.size, true⟩ : Rd)).2).2).2).2).2).2).2).2 4).1.toNat - p) 0 rfl (Nat.zero_le _) ?_
    intro i hi
    obtain ⟨he, hd, hr⟩ := rdEnts_size i (rdCount (rdNum (rdNum (rdNum (rdNum (rdNum (rdNum (rdNum (rdNum (⟨s.extract 4 s.size, true⟩ : Rd)).2).2).2).2).2).2).2).2 4).2
    by_cases hx : (i : Int) < (rdCount (rdNum (rdNum (rdNum (rdNum (rdNum (rdNum (rdNum (rdNum (⟨s.extract 4 s.size, true⟩ : Rd)).2).2).2).2).2).2).2).2 4).1
    · simp (maxSteps := 1000000) (disch := omega) only [go_sem, wI, wB, x25, r25_0, r25_1, r25_2, r25_3, r25_4, r25_5, r25_6, r25_7, r25_8, r25_9, r25_10, r25_11, r25_12, r25_13, r25_14, r25_15, r25_16, r25_17, r25_18, r25_19, r25_20, r25_21, r25_22, r25_23, Root.isRef, lentAt, Rd_eta, Int.toNat_natCast, natS1, natS2, rowsE_at, rowsE_get, rowsE_length, rowsE_snoc, Nat.mul_one, Nat.div_one, Nat.mod_one, hitG, Root.inRng, ↓ownize_c, ownC_al, ownD_some, ↓moveOut_slot, moveC_own, ↓rootCell_slot, ↓rootCell_ref, ↓setRoot_slot, ↓setRoot_ref]
      repeat' (first | ((with_reducible apply scEnd_of); exact rfl; exact rfl) | ((with_reducible apply ScW_of); rfl; rfl; trivial; (intro h; try simp only [HS] at h)) | ((with_reducible apply Br_of) <;> (intro h; (try simp only [h]); (try simp only [HS] at h))) | ((with_reducible first | refine Opt_put_if ?_ ?_ | refine Opt_if ?_ ?_ | refine Opt_bind_if ?_ ?_ | refine Opt_ifb ?_ ?_); (· (first | omega | (refine ⟨?_, ?_⟩ <;> omega) | (refine ⟨?_, ?_, ?_⟩ <;> omega) | (refine ⟨rfl, ?_⟩; simp only [okBig, Bool.and_eq_true, decide_eq_true_eq]; omega) | (refine Nat.le_trans (Nat.add_le_add_left (varS_le _) _) ?_; simp only [size_strOfNums, List.length_cons, List.length_nil, rowsE_length, ByteArray.size_append]; omega) | (refine ⟨rfl, ?_⟩; simp only [okBig, Bool.and_eq_true, decide_eq_true_eq, size_strOfNums, List.length_cons, List.length_nil, rowsE_length, ByteArray.size_append]; omega) | (simp only [size_strOfNums, List.length_cons, List.length_nil, rowsE_length, ByteArray.size_append]; omega)))) | ((with_reducible refine Opt_bind_ifn ?_ ?_); (· omega)) | simp (maxSteps := 1000000) (disch := omega) only [go_sem, wI, wB, Root.isRef, lentAt, Rd_eta, Int.toNat_natCast, natS1, natS2, rowsE_at, rowsE_get, rowsE_length, rowsE_snoc, Nat.mul_one, Nat.div_one, Nat.mod_one, hitG, Root.inRng, ↓ownize_c, ownC_al, ownD_some, ↓moveOut_slot, moveC_own, ↓rootCell_slot, ↓rootCell_ref, ↓setRoot_slot, ↓setRoot_ref])
      all_goals (try (exfalso; omega))
      refine LoopQ_of (i + 1) ?_ (by omega) (by omega)
      simp only [rdEnts_succ]
      rfl
    · obtain rfl : i = (rdCount (rdNum (rdNum (rdNum (rdNum (rdNum (rdNum (rdNum (rdNum (⟨s.extract 4 s.size, true⟩ : Rd)).2).2).2).2).2).2).2).2 4).1.toNat := by omega
      have g1 := rdNum_rng (rdNum (⟨s.extract 4 s.size, true⟩ : Rd)).2
      have g2 := rdNum_rng (rdNum (rdNum (⟨s.extract 4 s.size, true⟩ : Rd)).2).2
      have hW := c18_eq (k := (rdNum (⟨s.extract 4 s.size, true⟩ : Rd)).1) (fr := (rdNum (rdNum (⟨s.extract 4 s.size, true⟩ : Rd)).2).1) (to := (rdNum (rdNum (rdNum (⟨s.extract 4 s.size, true⟩ : Rd)).2).2).1) (tm := (rdNum (rdNum (rdNum (rdNum (⟨s.extract 4 s.size, true⟩ : Rd)).2).2).2).1) (ix := (rdNum (rdNum (rdNum (rdNum (rdNum (⟨s.extract 4 s.size, true⟩ : Rd)).2).2).2).2).1) (it := (rdNum (rdNum (rdNum (rdNum (rdNum (rdNum (⟨s.extract 4 s.size, true⟩ : Rd)).2).2).2).2).2).1) (cm := (rdNum (rdNum (rdNum (rdNum (rdNum (rdNum (rdNum (⟨s.extract 4 s.size, true⟩ : Rd)).2).2).2).2).2).2).1) (y := decide ((rdNum (rdNum (rdNum (rdNum (rdNum (rdNum (rdNum (rdNum (⟨s.extract 4 s.size, true⟩ : Rd)).2).2).2).2).2).2).2).1 = 1)) (e := (rdEnts (rdCount (rdNum (rdNum (rdNum (rdNum (rdNum (rdNum (rdNum (rdNum (⟨s.extract 4 s.size, true⟩ : Rd)).2).2).2).2).2).2).2).2 4).1.toNat (rdCount (rdNum (rdNum (rdNum (rdNum (rdNum (rdNum (rdNum (rdNum (⟨s.extract 4 s.size, true⟩ : Rd)).2).2).2).2).2).2).2).2 4).2 []).1) (d := (rdEnts (rdCount (rdNum (rdNum (rdNum (rdNum (rdNum (rdNum (rdNum (rdNum (⟨s.extract 4 s.size, true⟩ : Rd)).2).2).2).2).2).2).2).2 4).1.toNat (rdCount (rdNum (rdNum (rdNum (rdNum (rdNum (rdNum (rdNum (rdNum (⟨s.extract 4 s.size, true⟩ : Rd)).2).2).2).2).2).2).2).2 4).2 []).2.s) ⟨⟨⟨by omega, by omega⟩, ⟨by omega, by omega⟩⟩, ⟨by omega, by omega⟩, fun p hp => by have := hd p hp; omega⟩
      simp (maxSteps := 1000000) (disch := omega) only [go_sem, wI, wB, x25, r25_0, r25_1, r25_2, r25_3, r25_4, r25_5, r25_6, r25_7, r25_8, r25_9, r25_10, r25_11, r25_12, r25_13, r25_14, r25_15, r25_16, r25_17, r25_18, r25_19, r25_20, r25_21, r25_22, r25_23, Root.isRef, lentAt, Rd_eta, Int.toNat_natCast, natS1, natS2, rowsE_at, rowsE_get, rowsE_length, rowsE_snoc, Nat.mul_one, Nat.div_one, Nat.mod_one, hitG, Root.inRng, ↓ownize_c, ownC_al, ownD_some, ↓moveOut_slot, moveC_own, ↓rootCell_slot, ↓rootCell_ref, ↓setRoot_slot, ↓setRoot_ref, hW]
      repeat' (first | ((with_reducible apply scEnd_of); exact rfl; exact rfl) | ((with_reducible apply ScW_of); rfl; rfl; trivial; (intro h; try simp only [HS] at h)) | ((with_reducible apply Br_of) <;> (intro h; (try simp only [h]); (try simp only [HS] at h))) | ((with_reducible first | refine Opt_put_if ?_ ?_ | refine Opt_if ?_ ?_ | refine Opt_bind_if ?_ ?_ | refine Opt_ifb ?_ ?_); (· (first | omega | (refine ⟨?_, ?_⟩ <;> omega) | (refine ⟨?_, ?_, ?_⟩ <;> omega) | (refine ⟨rfl, ?_⟩; simp only [okBig, Bool.and_eq_true, decide_eq_true_eq]; omega) | (refine Nat.le_trans (Nat.add_le_add_left (varS_le _) _) ?_; simp only [size_strOfNums, List.length_cons, List.length_nil, rowsE_length, ByteArray.size_append]; omega) | (refine ⟨rfl, ?_⟩; simp only [okBig, Bool.and_eq_true, decide_eq_true_eq, size_strOfNums, List.length_cons, List.length_nil, rowsE_length, ByteArray.size_append]; omega) | (simp only [size_strOfNums, List.length_cons, List.length_nil, rowsE_length, ByteArray.size_append]; omega)))) | ((with_reducible refine Opt_bind_ifn ?_ ?_); (· omega)) | simp (maxSteps := 1000000) (disch := omega) only [go_sem, wI, wB, Root.isRef, lentAt, Rd_eta, Int.toNat_natCast, natS1, natS2, rowsE_at, rowsE_get, rowsE_length, rowsE_snoc, Nat.mul_one, Nat.div_one, Nat.mod_one, hitG, Root.inRng, ↓ownize_c, ownC_al, ownD_some, ↓moveOut_slot, moveC_own, ↓rootCell_slot, ↓rootCell_ref, ↓setRoot_slot, ↓setRoot_ref, hW])
      all_goals (try (exfalso; omega))
      · rw [rmsgI_eq, if_neg]
        · rfl
        · rintro ⟨_, a, b⟩
          rcases h with h | h
          · rw [show (msgR s).2.ok = (rdEnts (rdCount (rdNum (rdNum (rdNum (rdNum (rdNum (rdNum (rdNum (rdNum (⟨s.extract 4 s.size, true⟩ : Rd)).2).2).2).2).2).2).2).2 4).1.toNat (rdCount (rdNum (rdNum (rdNum (rdNum (rdNum (rdNum (rdNum (rdNum (⟨s.extract 4 s.size, true⟩ : Rd)).2).2).2).2).2).2).2).2 4).2 []).2.ok from rfl, h] at a; simp at a
          · exact h b
      · rw [rmsgI_eq, if_pos (show 4 ≤ s.size ∧ (msgR s).2.ok = true ∧ (msgR s).1.show = s from ⟨by omega, h⟩)]; rfl
noncomputable def c25 : List SV → Refs → Option (SV × List SV × Refs)
  | [⟨.one, [.str s]⟩], [] => (open Classical in if s.size ≤ 1152921504606846976 then some (⟨.tup [(true, 10), (false, 1)], [.int .i64 (rmsg s).1.k, .int .i64 (rmsg s).1.fr, .int .i64 (rmsg s).1.to, .int .i64 (rmsg s).1.tm, .int .i64 (rmsg s).1.ix, .int .i64 (rmsg s).1.it, .int .i64 (rmsg s).1.cm, .bool (rmsg s).1.y, .own 2 (rowsE (rmsg s).1.e), .str (rmsg s).1.d, .bool (rmsg s).2]⟩, [⟨.one, [.str s]⟩], []) else none)
  | _, _ => none
theorem ctr25 : Ctr Try.prog 25 c25 := by
  refine ⟨k25, fun args rf res args' rf' h => ?_⟩
  unfold c25 at h
  split at h
  · split at h
    · rename_i hyp
      simp only [Option.some.injEq, Prod.mk.injEq] at h
      obtain ⟨rfl, rfl, rfl⟩ := h
      exact g25 _ hyp
    · simp at h
  · simp at h
theorem c25_eq {s : ByteArray} (hyp : s.size ≤ 1152921504606846976) : c25 [⟨.one, [.str s]⟩] [] = some (⟨.tup [(true, 10), (false, 1)], [.int .i64 (rmsg s).1.k, .int .i64 (rmsg s).1.fr, .int .i64 (rmsg s).1.to, .int .i64 (rmsg s).1.tm, .int .i64 (rmsg s).1.ix, .int .i64 (rmsg s).1.it, .int .i64 (rmsg s).1.cm, .bool (rmsg s).1.y, .own 2 (rowsE (rmsg s).1.e), .str (rmsg s).1.d, .bool (rmsg s).2]⟩, [⟨.one, [.str s]⟩], []) := if_pos hyp

end Go.Eng

namespace Go.Eng
open Go Go.Proofs

theorem pieceA_size (s : ByteArray) (a : Nat) (ha : a ≤ s.size) : (pieceA s a).1.size ≤ s.size ∧ (pieceA s a).2 ≤ s.size := by
  have f1 := fin_fact (n := 1) (z := s.size) (b := (bytes s).drop a) (isB_drop (isB_bytes s) _) (by rw [List.length_drop, bytes_length]; omega)
  unfold pieceA
  split
  · have e2 : (⟨#[]⟩ : ByteArray).size = 0 := rfl
    rw [e2]; omega
  · rename_i h
    exact ⟨extract_le _ _ _, by simp only; omega⟩
theorem fin_hi {n : Nat} {b : List Int} {z : Nat} (hb : isB b) (hz : b.length ≤ z) : 0 ≤ finV z (varsO n b) → ∀ i, (varsV n b).getD i 0 ≤ 562949953421311 := by
  intro h i
  rcases hv : varsO n b with _ | ⟨v, r⟩
  · rw [hv, finV] at h; omega
  · obtain ⟨h1, h2, h3⟩ := varsO_some n b v r hb hv
    rw [varsV_of _ _ _ _ hv, List.getD_eq_getElem?_getD]
    rcases hi : v[i]? with _ | x
    · simp
    · have := h2 x (List.mem_of_getElem? hi)
      unfold okN at this
      simp; omega
theorem spE_lo {s : ByteArray} {n a : Nat} {out : List EV} (h : finV s.size (varsO 1 ((bytes s).drop a)) < 0) : spE s (n + 1) a out = none := if_pos h
theorem spE_hi {s : ByteArray} {n a : Nat} {out : List EV} (h : ¬finV s.size (varsO 1 ((bytes s).drop a)) < 0) (h2 : (pieceA s (finV s.size (varsO 1 ((bytes s).drop a))).toNat).2 < 0) : spE s (n + 1) a out = none := by
  rw [spE, if_neg h, if_pos h2]
theorem spE_go {s : ByteArray} {n a : Nat} {out : List EV} (h : ¬finV s.size (varsO 1 ((bytes s).drop a)) < 0) (h2 : ¬(pieceA s (finV s.size (varsO 1 ((bytes s).drop a))).toNat).2 < 0) : spE s (n + 1) a out =
    spE s n (pieceA s (finV s.size (varsO 1 ((bytes s).drop a))).toNat).2.toNat (out ++ [((varsV 1 ((bytes s).drop a)).getD 0 0, (pieceA s (finV s.size (varsO 1 ((bytes s).drop a))).toNat).1)]) := by
  rw [spE, if_neg h, if_neg h2]

theorem g24 (s : ByteArray) (hyp : s.size ≤ 1152921504606846976) : Good Try.prog 24 [⟨.one, [.str s]⟩] [] (⟨.tup [(true, 10), (false, 1)], [.int .i64 (rmsg s).1.k, .int .i64 (rmsg s).1.fr, .int .i64 (rmsg s).1.to, .int .i64 (rmsg s).1.tm, .int .i64 (rmsg s).1.ix, .int .i64 (rmsg s).1.it, .int .i64 (rmsg s).1.cm, .bool (rmsg s).1.y, .own 2 (rowsE (rmsg s).1.e), .str (rmsg s).1.d, .bool (rmsg s).2]⟩) [⟨.one, [.str s]⟩] [] := by
  refine Good_of (E := envOf [(79, c79), (80, c80), (17, c17)]) (envOk_of ⟨ctr79, ⟨ctr80, ⟨ctr17, trivial⟩⟩⟩) Try.func24 m24 rfl ?_
  have f9 := fin_fact (n := 9) (z := s.size) (b := ((bytes s).drop 4)) (isB_drop (isB_bytes s) 4) (by rw [List.length_drop, bytes_length]; omega)
  have q1 := fun h => (f9 h).1
  have q3 := fun h => (f9 h).2.1
  have q8 := fun h => (f9 h).2.2 8
  have q81 := fun h => (f9 h).2.2 1
  have q82 := fun h => (f9 h).2.2 2
  have f9h := fin_hi (n := 9) (z := s.size) (b := ((bytes s).drop 4)) (isB_drop (isB_bytes s) 4) (by rw [List.length_drop, bytes_length]; omega)
  have q91 := fun h => f9h h 1
  have q92 := fun h => f9h h 2
  clear f9h
  simp (maxSteps := 1000000) (disch := omega) only [go_sem, wI, wB, x24, r24_0, r24_1, r24_2, r24_3, r24_4v, r24_4t, r24_5, r24_6, r24_8, r24_9, r24_10, r24_11, r24_12, r24_13, r24_14v, r24_14t, r24_15, r24_7, r24_16, r24_17, r24_18, r24_19, Root.isRef, lentAt, Rd_eta, Int.toNat_natCast, natS1, natS2, rowsE_at, rowsE_get, rowsE_length, rowsE_snoc, Nat.mul_one, Nat.div_one, Nat.mod_one, hitG, Root.inRng, ↓ownize_c, ownC_al, ownD_some, ↓moveOut_slot, moveC_own, ↓rootCell_slot, ↓rootCell_ref, ↓setRoot_slot, ↓setRoot_ref, rowsI_at, rowsI_at0, rowsI_get, rowsI_length, c79_eq, c80_eq]
  repeat' (first | ((with_reducible apply scEnd_of); exact rfl; exact rfl) | ((with_reducible apply ScW_of); rfl; rfl; trivial; (intro h; try simp only [HS] at h)) | ((with_reducible apply Br_of) <;> (intro h; (try simp only [h]); (try simp only [HS] at h))) | ((with_reducible first | refine Opt_put_if ?_ ?_ | refine Opt_if ?_ ?_ | refine Opt_bind_if ?_ ?_ | refine Opt_ifb ?_ ?_); (· (first | omega | (refine ⟨?_, ?_⟩ <;> omega) | (refine ⟨?_, ?_, ?_⟩ <;> omega) | (refine ⟨rfl, ?_⟩; simp only [okBig, Bool.and_eq_true, decide_eq_true_eq]; omega) | (refine Nat.le_trans (Nat.add_le_add_left (varS_le _) _) ?_; simp only [size_strOfNums, List.length_cons, List.length_nil, rowsE_length, ByteArray.size_append]; omega) | (refine ⟨rfl, ?_⟩; simp only [okBig, Bool.and_eq_true, decide_eq_true_eq, size_strOfNums, List.length_cons, List.length_nil, rowsE_length, ByteArray.size_append]; omega) | (simp only [size_strOfNums, List.length_cons, List.length_nil, rowsE_length, ByteArray.size_append]; omega)))) | ((with_reducible refine Opt_bind_ifn ?_ ?_); (· omega)) | simp (maxSteps := 1000000) (disch := omega) only [go_sem, wI, wB, Root.isRef, lentAt, Rd_eta, Int.toNat_natCast, natS1, natS2, rowsE_at, rowsE_get, rowsE_length, rowsE_snoc, Nat.mul_one, Nat.div_one, Nat.mod_one, hitG, Root.inRng, ↓ownize_c, ownC_al, ownD_some, ↓moveOut_slot, moveC_own, ↓rootCell_slot, ↓rootCell_ref, ↓setRoot_slot, ↓setRoot_ref, rowsI_at, rowsI_at0, rowsI_get, rowsI_length, c79_eq, c80_eq])
  all_goals (try (exfalso; omega))
  · rw [rmsgS_eq, show smsgR s = none from if_pos h]; rfl
  · have hsm : smsgR s = match spE s ((varsV 9 ((bytes s).drop 4)).getD 8 0).toNat (finV s.size (varsO 9 ((bytes s).drop 4))).toNat [] with | some (l, a) => some _ | none => none := if_neg (by omega)
    refine LoopK_of (α := Nat × Nat × List EV) (fun p => ⟨[(7, i64 p.1), (6, ⟨.one, [.ptr 6 0]⟩), (5, i64 p.2.1), (2, ⟨.one, [.ptr 2 0]⟩), (0, st1 s)], [(6, [.int .i64 ((varsV 9 ((bytes s).drop 4)).getD 0 0), .int .i64 ((varsV 9 ((bytes s).drop 4)).getD 1 0), .int .i64 ((varsV 9 ((bytes s).drop 4)).getD 2 0), .int .i64 ((varsV 9 ((bytes s).drop 4)).getD 3 0), .int .i64 ((varsV 9 ((bytes s).drop 4)).getD 4 0), .int .i64 ((varsV 9 ((bytes s).drop 4)).getD 5 0), .int .i64 ((varsV 9 ((bytes s).drop 4)).getD 6 0), .bool (decide (((varsV 9 ((bytes s).drop 4)).getD 7 0) = 1)), .own 2 (rowsE p.2.2), .str ⟨#[]⟩]), (2, [.int .i64 0, .int .i64 0, .int .i64 0, .int .i64 0, .int .i64 0, .int .i64 0, .int .i64 0, .bool false, .own 2 [], .str ⟨#[]⟩])], [(0, st1 s)]⟩) (fun p => spE s p.1 p.2.1 p.2.2 = spE s ((varsV 9 ((bytes s).drop 4)).getD 8 0).toNat (finV s.size (varsO 9 ((bytes s).drop 4))).toNat [] ∧ p.2.1 ≤ s.size ∧ (∀ q ∈ p.2.2, q.2.size ≤ s.size) ∧ p.2.2.length + p.1 ≤ 4) (fun p => p.1) (((varsV 9 ((bytes s).drop 4)).getD 8 0).toNat, (finV s.size (varsO 9 ((bytes s).drop 4))).toNat, []) ?h0 ⟨rfl, by simp only; omega, by simp, by simp only [List.length_nil]; omega⟩ ?_
    case h0 => rw [Int.toNat_of_nonneg (by omega), Int.toNat_of_nonneg (by omega)]; rfl
    rintro ⟨n, a, o⟩ ⟨h1, h2, h3, h4⟩
    simp only at h1 h2 h3 h4
    clear f9
    have f1 := fin_fact (n := 1) (z := s.size) (b := (bytes s).drop a) (isB_drop (isB_bytes s) _) (by rw [List.length_drop, bytes_length]; omega)
    have r1 := fun h => (f1 h).1
    have r3 := fun h => (f1 h).2.1
    clear f1
    rcases n with _ | n
    · simp only [spE] at h1
      have hW := c17_eq (k := ((varsV 9 ((bytes s).drop 4)).getD 0 0)) (fr := ((varsV 9 ((bytes s).drop 4)).getD 1 0)) (to := ((varsV 9 ((bytes s).drop 4)).getD 2 0)) (tm := ((varsV 9 ((bytes s).drop 4)).getD 3 0)) (ix := ((varsV 9 ((bytes s).drop 4)).getD 4 0)) (it := ((varsV 9 ((bytes s).drop 4)).getD 5 0)) (cm := ((varsV 9 ((bytes s).drop 4)).getD 6 0)) (y := decide (((varsV 9 ((bytes s).drop 4)).getD 7 0) = 1)) (e := o) (d := s.extract a s.size) ⟨⟨⟨by omega, by omega⟩, ⟨by omega, by omega⟩⟩, ⟨by omega, by have := extract_le s a s.size; omega⟩, fun p hp => by have := h3 p hp; omega⟩
      rw [← h1] at hsm
      simp only at hsm
      simp (maxSteps := 1000000) (disch := omega) only [go_sem, wI, wB, x24, r24_0, r24_1, r24_2, r24_3, r24_4v, r24_4t, r24_5, r24_6, r24_8, r24_9, r24_10, r24_11, r24_12, r24_13, r24_14v, r24_14t, r24_15, r24_7, r24_16, r24_17, r24_18, r24_19, Root.isRef, lentAt, Rd_eta, Int.toNat_natCast, natS1, natS2, rowsE_at, rowsE_get, rowsE_length, rowsE_snoc, Nat.mul_one, Nat.div_one, Nat.mod_one, hitG, Root.inRng, ↓ownize_c, ownC_al, ownD_some, ↓moveOut_slot, moveC_own, ↓rootCell_slot, ↓rootCell_ref, ↓setRoot_slot, ↓setRoot_ref, rowsI_at, rowsI_at0, rowsI_get, rowsI_length, hW, c79_eq, c80_eq]
      repeat' (first | ((with_reducible apply scEnd_of); exact rfl; exact rfl) | ((with_reducible apply ScW_of); rfl; rfl; trivial; (intro h; try simp only [HS] at h)) | ((with_reducible apply Br_of) <;> (intro h; (try simp only [h]); (try simp only [HS] at h))) | ((with_reducible first | refine Opt_put_if ?_ ?_ | refine Opt_if ?_ ?_ | refine Opt_bind_if ?_ ?_ | refine Opt_ifb ?_ ?_); (· (first | omega | (refine ⟨?_, ?_⟩ <;> omega) | (refine ⟨?_, ?_, ?_⟩ <;> omega) | (refine ⟨rfl, ?_⟩; simp only [okBig, Bool.and_eq_true, decide_eq_true_eq]; omega) | (refine Nat.le_trans (Nat.add_le_add_left (varS_le _) _) ?_; simp only [size_strOfNums, List.length_cons, List.length_nil, rowsE_length, ByteArray.size_append]; omega) | (refine ⟨rfl, ?_⟩; simp only [okBig, Bool.and_eq_true, decide_eq_true_eq, size_strOfNums, List.length_cons, List.length_nil, rowsE_length, ByteArray.size_append]; omega) | (simp only [size_strOfNums, List.length_cons, List.length_nil, rowsE_length, ByteArray.size_append]; omega)))) | ((with_reducible refine Opt_bind_ifn ?_ ?_); (· omega)) | simp (maxSteps := 1000000) (disch := omega) only [go_sem, wI, wB, Root.isRef, lentAt, Rd_eta, Int.toNat_natCast, natS1, natS2, rowsE_at, rowsE_get, rowsE_length, rowsE_snoc, Nat.mul_one, Nat.div_one, Nat.mod_one, hitG, Root.inRng, ↓ownize_c, ownC_al, ownD_some, ↓moveOut_slot, moveC_own, ↓rootCell_slot, ↓rootCell_ref, ↓setRoot_slot, ↓setRoot_ref, rowsI_at, rowsI_at0, rowsI_get, rowsI_length, hW, c79_eq, c80_eq])
      all_goals (try (exfalso; omega))
      · have hh : rmsg s = (MsgV.zero, false) := by rw [rmsgS_eq, hsm]; exact if_neg h
        rw [hh]; rfl
      · have hh := rmsgS_eq s
        rw [hsm] at hh
        simp only at hh
        rw [hh.trans (if_pos h)]
    · have pz := fun h => pieceA_size s (finV s.size (varsO 1 ((bytes s).drop a))).toNat (by have := r3 h; omega)
      simp (maxSteps := 1000000) (disch := omega) only [go_sem, wI, wB, x24, r24_0, r24_1, r24_2, r24_3, r24_4v, r24_4t, r24_5, r24_6, r24_8, r24_9, r24_10, r24_11, r24_12, r24_13, r24_14v, r24_14t, r24_15, r24_7, r24_16, r24_17, r24_18, r24_19, Root.isRef, lentAt, Rd_eta, Int.toNat_natCast, natS1, natS2, rowsE_at, rowsE_get, rowsE_length, rowsE_snoc, Nat.mul_one, Nat.div_one, Nat.mod_one, hitG, Root.inRng, ↓ownize_c, ownC_al, ownD_some, ↓moveOut_slot, moveC_own, ↓rootCell_slot, ↓rootCell_ref, ↓setRoot_slot, ↓setRoot_ref, rowsI_at, rowsI_at0, rowsI_get, rowsI_length, c79_eq, c80_eq]
      repeat' (first | ((with_reducible apply scEnd_of); exact rfl; exact rfl) | ((with_reducible apply ScW_of); rfl; rfl; trivial; (intro h; try simp only [HS] at h)) | ((with_reducible apply Br_of) <;> (intro h; (try simp only [h]); (try simp only [HS] at h))) | ((with_reducible first | refine Opt_put_if ?_ ?_ | refine Opt_if ?_ ?_ | refine Opt_bind_if ?_ ?_ | refine Opt_ifb ?_ ?_); (· (first | omega | (refine ⟨?_, ?_⟩ <;> omega) | (refine ⟨?_, ?_, ?_⟩ <;> omega) | (refine ⟨rfl, ?_⟩; simp only [okBig, Bool.and_eq_true, decide_eq_true_eq]; omega) | (refine Nat.le_trans (Nat.add_le_add_left (varS_le _) _) ?_; simp only [size_strOfNums, List.length_cons, List.length_nil, rowsE_length, ByteArray.size_append]; omega) | (refine ⟨rfl, ?_⟩; simp only [okBig, Bool.and_eq_true, decide_eq_true_eq, size_strOfNums, List.length_cons, List.length_nil, rowsE_length, ByteArray.size_append]; omega) | (simp only [size_strOfNums, List.length_cons, List.length_nil, rowsE_length, ByteArray.size_append]; omega)))) | ((with_reducible refine Opt_bind_ifn ?_ ?_); (· omega)) | simp (maxSteps := 1000000) (disch := omega) only [go_sem, wI, wB, Root.isRef, lentAt, Rd_eta, Int.toNat_natCast, natS1, natS2, rowsE_at, rowsE_get, rowsE_length, rowsE_snoc, Nat.mul_one, Nat.div_one, Nat.mod_one, hitG, Root.inRng, ↓ownize_c, ownC_al, ownD_some, ↓moveOut_slot, moveC_own, ↓rootCell_slot, ↓rootCell_ref, ↓setRoot_slot, ↓setRoot_ref, rowsI_at, rowsI_at0, rowsI_get, rowsI_length, c79_eq, c80_eq])
      all_goals (try (exfalso; omega))
      · rw [spE_lo h] at h1; rw [← h1] at hsm; rw [rmsgS_eq, hsm]; rfl
      · rw [spE_hi (by omega) h] at h1; rw [← h1] at hsm; rw [rmsgS_eq, hsm]; rfl
      · rw [spE_go (by omega) (by omega)] at h1
        obtain ⟨hp1, hp2⟩ := pz (by omega)
        obtain ⟨b, hb⟩ : ∃ b : Nat, (pieceA s (finV s.size (varsO 1 ((bytes s).drop a))).toNat).2 = (b : Int) := ⟨_, (Int.toNat_of_nonneg h).symm⟩
        rw [hb, Int.toNat_natCast] at h1
        rw [hb] at hp2
        rw [hb, show (((n + 1 : Nat) : Int) - 1) = (n : Int) by omega]
        refine LoopQ_of (n, b, _) rfl ⟨h1, by simp only; omega, ?_, ?_⟩ (by simp only; omega)
        · intro q hq
          rcases List.mem_append.1 hq with hq | hq
          · exact h3 q hq
          · rw [List.mem_singleton] at hq; subst hq; exact hp1
        · simp only [List.length_append, List.length_cons, List.length_nil]; omega
noncomputable def c24 : List SV → Refs → Option (SV × List SV × Refs)
  | [⟨.one, [.str s]⟩], [] => (open Classical in if s.size ≤ 1152921504606846976 then some (⟨.tup [(true, 10), (false, 1)], [.int .i64 (rmsg s).1.k, .int .i64 (rmsg s).1.fr, .int .i64 (rmsg s).1.to, .int .i64 (rmsg s).1.tm, .int .i64 (rmsg s).1.ix, .int .i64 (rmsg s).1.it, .int .i64 (rmsg s).1.cm, .bool (rmsg s).1.y, .own 2 (rowsE (rmsg s).1.e), .str (rmsg s).1.d, .bool (rmsg s).2]⟩, [⟨.one, [.str s]⟩], []) else none)
  | _, _ => none
theorem ctr24 : Ctr Try.prog 24 c24 := by
  refine ⟨k24, fun args rf res args' rf' h => ?_⟩
  unfold c24 at h
  split at h
  · split at h
    · rename_i hyp
      simp only [Option.some.injEq, Prod.mk.injEq] at h
      obtain ⟨rfl, rfl, rfl⟩ := h
      exact g24 _ hyp
    · simp at h
  · simp at h
theorem c24_eq {s : ByteArray} (hyp : s.size ≤ 1152921504606846976) : c24 [⟨.one, [.str s]⟩] [] = some (⟨.tup [(true, 10), (false, 1)], [.int .i64 (rmsg s).1.k, .int .i64 (rmsg s).1.fr, .int .i64 (rmsg s).1.to, .int .i64 (rmsg s).1.tm, .int .i64 (rmsg s).1.ix, .int .i64 (rmsg s).1.it, .int .i64 (rmsg s).1.cm, .bool (rmsg s).1.y, .own 2 (rowsE (rmsg s).1.e), .str (rmsg s).1.d, .bool (rmsg s).2]⟩, [⟨.one, [.str s]⟩], []) := if_pos hyp

end Go.Eng

namespace Go.Eng
open Go Go.Proofs

theorem rmsg_len (s : ByteArray) : (rmsg s).1.e.length ≤ 4 := by
  rcases rmsg_cases s with ⟨o, h, e⟩ | ⟨h, e⟩
  · rw [e]; exact (okB_small h.1).2.2.2.2.2.2.2.1
  · rw [e]; simp [MsgV.zero]
theorem held_val (n : Nat) : (if heldE 1 (markE 1 n) < 0 then -1 else heldE 1 (markE 1 n)) = 1 + 2 * (n : Int) := by
  rw [held_mark]; rw [if_neg (by omega)]

theorem g7 (s : ByteArray) (hyp : s.size ≤ 9223372036854775807) : Good Try.prog 7 [⟨.one, [.str s]⟩] [] (⟨.one, [.bool true]⟩) [⟨.one, [.str s]⟩] [] := by
  refine Good_of (E := envOf [(25, c25), (24, c24), (16, c16), (26, c26), (27, c27)]) (envOk_of ⟨ctr25, ⟨ctr24, ⟨ctr16, ⟨ctr26, ⟨ctr27, trivial⟩⟩⟩⟩⟩) Try.func7 m7 rfl ?_
  have hl := rmsg_len s
  by_cases hz : s.size ≤ 1048576
  · have hM := c26_eq (k := (rmsg s).1.k) (fr := (rmsg s).1.fr) (to := (rmsg s).1.to) (tm := (rmsg s).1.tm) (ix := (rmsg s).1.ix) (it := (rmsg s).1.it) (cm := (rmsg s).1.cm) (y := (rmsg s).1.y) (e := (rmsg s).1.e) (d := (rmsg s).1.d) (n := 1) ⟨by omega, by omega, by omega⟩
    have hE := fun (k2 fr2 to2 tm2 ix2 it2 cm2 : Int) (y2 : Bool) (e2 : List EV) (d2 : ByteArray) => c16_eq (k := (rmsg s).1.k) (fr := (rmsg s).1.fr) (to := (rmsg s).1.to) (tm := (rmsg s).1.tm) (ix := (rmsg s).1.ix) (it := (rmsg s).1.it) (cm := (rmsg s).1.cm) (y := (rmsg s).1.y) (e := (rmsg s).1.e) (d := (rmsg s).1.d) (k2 := k2) (fr2 := fr2) (to2 := to2) (tm2 := tm2) (ix2 := ix2) (it2 := it2) (cm2 := cm2) (y2 := y2) (e2 := e2) (d2 := d2) (by omega)
    have hH := c27_eq (k := (rmsg s).1.k) (fr := (rmsg s).1.fr) (to := (rmsg s).1.to) (tm := (rmsg s).1.tm) (ix := (rmsg s).1.ix) (it := (rmsg s).1.it) (cm := (rmsg s).1.cm) (y := (rmsg s).1.y) (e := markE 1 (rmsg s).1.e.length) (d := (rmsg s).1.d) (n := 1) ⟨by rw [markE_len]; omega, by omega, by omega⟩
    simp (maxSteps := 1000000) (disch := omega) only [go_sem, wI, wB, x7, r7_0, r7_1, r7_2, r7_3, r7_4, r7_5, r7_6, r7_7, r7_8, r7_9, r7_10, r7_11, r7_12, r7_13, r7_14, r7_15, r7_16, r7_17, r7_18, r7_19, r7_20, r7_21, r7_22, r7_23, r7_24, Root.isRef, lentAt, Rd_eta, Int.toNat_natCast, natS1, natS2, rowsE_at, rowsE_get, rowsE_length, rowsE_snoc, Nat.mul_one, Nat.div_one, Nat.mod_one, hitG, Root.inRng, ↓ownize_c, ownC_al, ownD_some, ↓moveOut_slot, moveC_own, ↓rootCell_slot, ↓rootCell_ref, ↓setRoot_slot, ↓setRoot_ref, rowsI_at, rowsI_at0, rowsI_get, rowsI_length, c25_eq, c24_eq, hM, hH, hE, held_val, markE_len]
    repeat' (first | ((with_reducible apply scEnd_of); exact rfl; exact rfl) | ((with_reducible apply ScW_of); rfl; rfl; trivial; (intro h; try simp only [HS] at h)) | ((with_reducible apply Br_of) <;> (intro h; (try simp only [h]); (try simp only [HS] at h))) | ((with_reducible first | refine Opt_put_if ?_ ?_ | refine Opt_if ?_ ?_ | refine Opt_bind_if ?_ ?_ | refine Opt_ifb ?_ ?_); (· (first | omega | (refine ⟨?_, ?_⟩ <;> omega) | (refine ⟨?_, ?_, ?_⟩ <;> omega) | (refine ⟨rfl, ?_⟩; simp only [okBig, Bool.and_eq_true, decide_eq_true_eq]; omega) | (refine Nat.le_trans (Nat.add_le_add_left (varS_le _) _) ?_; simp only [size_strOfNums, List.length_cons, List.length_nil, rowsE_length, ByteArray.size_append]; omega) | (refine ⟨rfl, ?_⟩; simp only [okBig, Bool.and_eq_true, decide_eq_true_eq, size_strOfNums, List.length_cons, List.length_nil, rowsE_length, ByteArray.size_append]; omega) | (simp only [size_strOfNums, List.length_cons, List.length_nil, rowsE_length, ByteArray.size_append]; omega)))) | ((with_reducible refine Opt_bind_ifn ?_ ?_); (· omega)) | simp (maxSteps := 1000000) (disch := omega) only [go_sem, wI, wB, Root.isRef, lentAt, Rd_eta, Int.toNat_natCast, natS1, natS2, rowsE_at, rowsE_get, rowsE_length, rowsE_snoc, Nat.mul_one, Nat.div_one, Nat.mod_one, hitG, Root.inRng, ↓ownize_c, ownC_al, ownD_some, ↓moveOut_slot, moveC_own, ↓rootCell_slot, ↓rootCell_ref, ↓setRoot_slot, ↓setRoot_ref, rowsI_at, rowsI_at0, rowsI_get, rowsI_length, c25_eq, c24_eq, hM, hH, hE, held_val, markE_len])
    all_goals (try (exfalso; omega))
    all_goals (exfalso; revert h; simp [eqE])
  · simp (maxSteps := 1000000) (disch := omega) only [go_sem, wI, wB, x7, r7_0, r7_1, r7_2, r7_3, r7_4, r7_5, r7_6, r7_7, r7_8, r7_9, r7_10, r7_11, r7_12, r7_13, r7_14, r7_15, r7_16, r7_17, r7_18, r7_19, r7_20, r7_21, r7_22, r7_23, r7_24, Root.isRef, lentAt, Rd_eta, Int.toNat_natCast, natS1, natS2, rowsE_at, rowsE_get, rowsE_length, rowsE_snoc, Nat.mul_one, Nat.div_one, Nat.mod_one, hitG, Root.inRng, ↓ownize_c, ownC_al, ownD_some, ↓moveOut_slot, moveC_own, ↓rootCell_slot, ↓rootCell_ref, ↓setRoot_slot, ↓setRoot_ref, rowsI_at, rowsI_at0, rowsI_get, rowsI_length]
    repeat' (first | ((with_reducible apply scEnd_of); exact rfl; exact rfl) | ((with_reducible apply ScW_of); rfl; rfl; trivial; (intro h; try simp only [HS] at h)) | ((with_reducible apply Br_of) <;> (intro h; (try simp only [h]); (try simp only [HS] at h))) | ((with_reducible first | refine Opt_put_if ?_ ?_ | refine Opt_if ?_ ?_ | refine Opt_bind_if ?_ ?_ | refine Opt_ifb ?_ ?_); (· (first | omega | (refine ⟨?_, ?_⟩ <;> omega) | (refine ⟨?_, ?_, ?_⟩ <;> omega) | (refine ⟨rfl, ?_⟩; simp only [okBig, Bool.and_eq_true, decide_eq_true_eq]; omega) | (refine Nat.le_trans (Nat.add_le_add_left (varS_le _) _) ?_; simp only [size_strOfNums, List.length_cons, List.length_nil, rowsE_length, ByteArray.size_append]; omega) | (refine ⟨rfl, ?_⟩; simp only [okBig, Bool.and_eq_true, decide_eq_true_eq, size_strOfNums, List.length_cons, List.length_nil, rowsE_length, ByteArray.size_append]; omega) | (simp only [size_strOfNums, List.length_cons, List.length_nil, rowsE_length, ByteArray.size_append]; omega)))) | ((with_reducible refine Opt_bind_ifn ?_ ?_); (· omega)) | simp (maxSteps := 1000000) (disch := omega) only [go_sem, wI, wB, Root.isRef, lentAt, Rd_eta, Int.toNat_natCast, natS1, natS2, rowsE_at, rowsE_get, rowsE_length, rowsE_snoc, Nat.mul_one, Nat.div_one, Nat.mod_one, hitG, Root.inRng, ↓ownize_c, ownC_al, ownD_some, ↓moveOut_slot, moveC_own, ↓rootCell_slot, ↓rootCell_ref, ↓setRoot_slot, ↓setRoot_ref, rowsI_at, rowsI_at0, rowsI_get, rowsI_length])
    all_goals (try (exfalso; omega))
noncomputable def c7 : List SV → Refs → Option (SV × List SV × Refs)
  | [⟨.one, [.str s]⟩], [] => (open Classical in if s.size ≤ 9223372036854775807 then some (⟨.one, [.bool true]⟩, [⟨.one, [.str s]⟩], []) else none)
  | _, _ => none
theorem ctr7 : Ctr Try.prog 7 c7 := by
  refine ⟨k7, fun args rf res args' rf' h => ?_⟩
  unfold c7 at h
  split at h
  · split at h
    · rename_i hyp
      simp only [Option.some.injEq, Prod.mk.injEq] at h
      obtain ⟨rfl, rfl, rfl⟩ := h
      exact g7 _ hyp
    · simp at h
  · simp at h
theorem c7_eq {s : ByteArray} (hyp : s.size ≤ 9223372036854775807) : c7 [⟨.one, [.str s]⟩] [] = some (⟨.one, [.bool true]⟩, [⟨.one, [.str s]⟩], []) := if_pos hyp

end Go.Eng
