/-
  Plain laws of numbers, bytes, times, values, frames and blocks; no condition.
-/
import Derived.Test.YtlpapgmbknkmaaaGreatEngC
set_option linter.unusedSimpArgs false
set_option linter.unusedVariables false
set_option maxRecDepth 100000
set_option maxHeartbeats 2000000
namespace Go.Eng
open Go
def bytes (s : ByteArray) : List Int := s.data.toList.map fun b => (b.toNat : Int)
def isB (l : List Int) : Prop := ∀ x ∈ l, 0 ≤ x ∧ x ≤ 255
theorem str_bytes (s : ByteArray) : strOfNums (bytes s) = s := by
  have : (s.data.toList.map fun b => (b.toNat : Int)).map (fun n => UInt8.ofNat n.toNat) = s.data.toList := by
    rw [List.map_map]
    exact (List.map_congr_left fun b _ => by simp).trans (List.map_id _)
  unfold strOfNums bytes
  rw [this]
theorem bytes_str {l : List Int} (h : isB l) : bytes (strOfNums l) = l := by
  unfold bytes strOfNums
  simp only [List.map_map]
  refine (List.map_congr_left fun b hb => ?_).trans (List.map_id _)
  have := h b hb
  simp only [Function.comp_apply, id, UInt8.toNat_ofNat']
  omega
theorem isB_bytes (s : ByteArray) : isB (bytes s) := by
  intro x hx
  simp only [bytes, List.mem_map] at hx
  obtain ⟨b, _, rfl⟩ := hx
  have := b.toNat_lt
  omega
theorem str_inj {a b : ByteArray} (h : bytes a = bytes b) : a = b := by rw [← str_bytes a, ← str_bytes b, h]
theorem bytes_inj {a b : ByteArray} : bytes a = bytes b ↔ a = b := ⟨str_inj, fun h => by rw [h]⟩
theorem bytes_append (a b : ByteArray) : bytes (a ++ b) = bytes a ++ bytes b := by
  unfold bytes
  rw [ByteArray.data_append, Array.toList_append, List.map_append]
theorem str_append (a b : List Int) : strOfNums (a ++ b) = strOfNums a ++ strOfNums b := by
  apply ByteArray.ext
  rw [ByteArray.data_append]
  unfold strOfNums
  apply Array.toList_inj.1
  simp only [Array.toList_append, List.map_append]
theorem bytes_length (s : ByteArray) : (bytes s).length = s.size := by
  unfold bytes; rw [List.length_map, Array.length_toList]; rfl
theorem bytes_extract (s : ByteArray) (i j : Nat) : bytes (s.extract i j) = ((bytes s).take j).drop i := by
  unfold bytes
  rw [ByteArray.data_extract, Array.toList_extract, List.extract_eq_take_drop, ← List.map_take, ← List.map_drop, List.drop_take]
theorem byteAt_bytes (s : ByteArray) (i : Nat) : byteAt s i = ((bytes s)[i]?).getD 0 := by
  unfold byteAt bytes
  by_cases h : i < s.size
  · rw [getElem?_pos s i h]
    have h' : i < s.data.toList.length := by rw [Array.length_toList]; exact h
    simp only [List.getElem?_map, List.getElem?_eq_getElem h', Option.map_some, Option.getD_some]
    rfl
  · rw [getElem?_neg s i h]
    have h' : s.data.toList.length ≤ i := by rw [Array.length_toList]; exact Nat.le_of_not_lt h
    simp [List.getElem?_eq_none h']
theorem isB_append {a b : List Int} : isB (a ++ b) ↔ isB a ∧ isB b := by
  unfold isB
  constructor
  · intro h; exact ⟨fun x hx => h x (List.mem_append_left _ hx), fun x hx => h x (List.mem_append_right _ hx)⟩
  · rintro ⟨h1, h2⟩ x hx
    rcases List.mem_append.1 hx with hx | hx
    · exact h1 x hx
    · exact h2 x hx
theorem isB_cons {a : Int} {b : List Int} : isB (a :: b) ↔ (0 ≤ a ∧ a ≤ 255) ∧ isB b := by
  unfold isB; simp
theorem isB_nil : isB [] := by simp [isB]
theorem isB_take {l : List Int} (h : isB l) (n : Nat) : isB (l.take n) := fun x hx => h x (List.mem_of_mem_take hx)
theorem isB_drop {l : List Int} (h : isB l) (n : Nat) : isB (l.drop n) := fun x hx => h x (List.mem_of_mem_drop hx)
theorem bytes_empty : bytes ⟨#[]⟩ = [] := rfl
theorem str_nil : strOfNums [] = ⟨#[]⟩ := rfl
theorem size_strOfNums (l : List Int) : (strOfNums l).size = l.length := strOfNums_size l
theorem str_eq_iff {l : List Int} (h : isB l) {s : ByteArray} : s = strOfNums l ↔ bytes s = l := by
  constructor
  · rintro rfl; exact bytes_str h
  · intro e; rw [← e, str_bytes]
theorem byteAt_rng (s : ByteArray) (i : Nat) : 0 ≤ byteAt s i ∧ byteAt s i ≤ 255 := by
  unfold byteAt
  split
  · rename_i b _; have := b.toNat_lt; omega
  · omega
theorem drop_byteAt {s : ByteArray} {i : Nat} (h : i < s.size) : (bytes s).drop i = byteAt s i :: (bytes s).drop (i + 1) := by
  have h' : i < (bytes s).length := by rw [bytes_length]; exact h
  rw [List.drop_eq_getElem_cons h', byteAt_bytes, List.getElem?_eq_getElem h']; rfl
def varL (n : Nat) : List Int := if h : n ≤ 127 then [(n : Int)] else ((n % 128 + 128 : Nat) : Int) :: varL (n / 128)
  decreasing_by omega
def varS (n : Int) : ByteArray := if 0 ≤ n ∧ n ≤ 562949953421311 then strOfNums (varL n.toNat) else ⟨#[]⟩
theorem varL_len : ∀ (m n : Nat), n < 128 ^ (m + 1) → (varL n).length ≤ m + 1
  | 0, n, h => by rw [varL, dif_pos (by omega)]; simp
  | m + 1, n, h => by
    rw [varL]
    split
    · simp
    · have := varL_len m (n / 128) (by rw [Nat.pow_succ] at h; omega)
      simp only [List.length_cons]; omega
theorem varL_isB : ∀ (n : Nat), isB (varL n)
  | n => by
    rw [varL]
    split
    · simp only [isB_cons, isB_nil, and_true]; omega
    · rw [isB_cons]
      have := varL_isB (n / 128)
      exact ⟨by omega, this⟩
  decreasing_by omega
theorem varL_pos (n : Nat) : 0 < (varL n).length := by rw [varL]; split <;> simp
def rvR : Nat → List Int → Option (Nat × Nat)
  | 0, _ => none
  | _, [] => none
  | f + 1, b :: t => if b < 128 then some (b.toNat, 1) else match rvR f t with
    | some (n, k) => if n = 0 then none else some ((b - 128).toNat + 128 * n, k + 1)
    | none => none
def rvO (l : List Int) : Option (Nat × Nat) := rvR 7 l
theorem rvR_some : ∀ (f : Nat) (l : List Int) (n k : Nat), isB l → rvR f l = some (n, k) → k ≤ f ∧ 0 < k ∧ k ≤ l.length ∧ l.take k = varL n ∧ n < 128 ^ f
  | 0, l, n, k, _, h => by simp [rvR] at h
  | f + 1, [], n, k, _, h => by simp [rvR] at h
  | f + 1, b :: t, n, k, hb, h => by
    rw [isB_cons] at hb
    simp only [rvR] at h
    split at h
    · rename_i h1
      simp only [Option.some.injEq, Prod.mk.injEq] at h
      obtain ⟨rfl, rfl⟩ := h
      have hp : 0 < 128 ^ f := Nat.pow_pos (by omega)
      refine ⟨by omega, by omega, by simp, ?_, by rw [Nat.pow_succ]; omega⟩
      rw [varL, dif_pos (by omega)]
      simp; omega
    · rename_i h1
      split at h
      · rename_i n' k' hr
        obtain ⟨e1, e2, e3, e4, e5⟩ := rvR_some f t n' k' hb.2 hr
        split at h
        · simp at h
        · rename_i hn
          simp only [Option.some.injEq, Prod.mk.injEq] at h
          obtain ⟨rfl, rfl⟩ := h
          refine ⟨by omega, by omega, by simp only [List.length_cons]; omega, ?_, by rw [Nat.pow_succ]; omega⟩
          rw [varL, dif_neg (by omega)]
          rw [List.take_succ_cons, e4]
          congr 1
          · omega
          · congr 1; omega
      · simp at h
theorem rvR_var : ∀ (f n : Nat) (t : List Int), n < 128 ^ (f + 1) → rvR (f + 1) (varL n ++ t) = some (n, (varL n).length)
  | f, n, t, h => by
    rw [varL]
    split
    · rename_i h1
      simp only [List.cons_append, List.nil_append, rvR]
      rw [if_pos (by omega)]; simp
    · rename_i h1
      cases f with
      | zero => omega
      | succ f =>
        simp only [List.cons_append]
        rw [rvR, if_neg (by omega), rvR_var f (n / 128) t (by rw [Nat.pow_succ] at h; omega)]
        simp only
        rw [if_neg (by omega)]
        simp only [List.length_cons, Option.some.injEq, Prod.mk.injEq, and_true]
        omega
theorem rvO_var {n : Nat} (h : n ≤ 562949953421311) (t : List Int) : rvO (varL n ++ t) = some (n, (varL n).length) := rvR_var 6 n t (by omega)
theorem rvO_some {l : List Int} {n k : Nat} (hb : isB l) (h : rvO l = some (n, k)) : 0 < k ∧ k ≤ l.length ∧ l.take k = varL n ∧ n ≤ 562949953421311 := by
  obtain ⟨h1, h2, h3, h4, h5⟩ := rvR_some 7 l n k hb h
  exact ⟨h2, h3, h4, by omega⟩
def rv (s : ByteArray) : Int × Int := match rvO (bytes s) with
  | some (n, k) => (n, k)
  | none => (0, 0)
theorem rv_rng (s : ByteArray) : 0 ≤ (rv s).1 ∧ (rv s).1 ≤ 562949953421311 ∧ 0 ≤ (rv s).2 ∧ (rv s).2 ≤ s.size := by
  unfold rv
  split
  · rename_i n k h
    obtain ⟨h1, h2, h3, h4⟩ := rvO_some (isB_bytes s) h
    rw [bytes_length] at h2
    simp only; omega
  · simp only; omega
def uz (z : Int) : Int := if 0 ≤ z ∧ z ≤ 281474976710656 then (if z % 2 = 1 then -((z + 1) / 2) else z / 2) else 0
def zz (n : Int) : Int := if 0 ≤ n ∧ n ≤ 140737488355328 then 2 * n else if -140737488355328 ≤ n ∧ n < 0 then -2 * n - 1 else -1
theorem zz_rng {n : Int} (h : -140737488355328 ≤ n) (h2 : n ≤ 140737488355328) : 0 ≤ zz n ∧ zz n ≤ 281474976710656 := by
  unfold zz; split
  · omega
  · split <;> omega
theorem uz_zz {n : Int} (h : -140737488355328 ≤ n) (h2 : n ≤ 140737488355328) : uz (zz n) = n := by
  have := zz_rng h h2
  unfold uz
  rw [if_pos this]
  unfold zz
  split
  · split <;> omega
  · split <;> (split <;> omega)
def w64 (x : Int) : Int := IntKind.i64.wrap x
theorem wI {x : Int} (h : -9223372036854775808 ≤ x) (h2 : x ≤ 9223372036854775807) : IntKind.i64.wrap x = x := by rw [IntKind.wrap_i64]; omega
theorem wB {x : Int} (h : 0 ≤ x) (h2 : x ≤ 255) : IntKind.u8.wrap x = x := by rw [IntKind.wrap_u8]; omega
theorem wJ {x : Int} (h : -9223372036854775808 ≤ x) (h2 : x ≤ 9223372036854775807) : w64 x = x := wI h h2
def encL (f : Nat → Int) (n : Nat) : List Int := (List.range n).flatMap fun i => varL (f i).toNat
theorem encL_succ (f : Nat → Int) (n : Nat) : encL f (n + 1) = encL f n ++ varL (f n).toNat := by
  simp [encL, List.range_succ, List.flatMap_append]
theorem encL_isB (f : Nat → Int) : ∀ n, isB (encL f n)
  | 0 => isB_nil
  | n + 1 => by rw [encL_succ, isB_append]; exact ⟨encL_isB f n, varL_isB _⟩
theorem encL_congr {f g : Nat → Int} : ∀ {n : Nat}, (∀ i, i < n → f i = g i) → encL f n = encL g n
  | 0, _ => rfl
  | n + 1, h => by rw [encL_succ, encL_succ, encL_congr (fun i hi => h i (by omega)), h n (by omega)]
theorem encL_shift (f : Nat → Int) : ∀ n, encL f (n + 1) = varL (f 0).toNat ++ encL (fun i => f (i + 1)) n
  | 0 => by simp [encL]
  | n + 1 => by rw [encL_succ, encL_shift f n, encL_succ (fun i => f (i + 1)), List.append_assoc]
theorem encL_pos (f : Nat → Int) {n : Nat} (h : 0 < n) : 0 < (encL f n).length := by
  cases n with
  | zero => omega
  | succ n => rw [encL_shift]; have := varL_pos (f 0).toNat; simp; omega
def varsO : Nat → List Int → Option (List Int × List Int)
  | 0, b => some ([], b)
  | k + 1, b => match rvO b with
    | some (n, j) => match varsO k (b.drop j) with
      | some (v, r) => some ((n : Int) :: v, r)
      | none => none
    | none => none
def okN (x : Int) : Prop := 0 ≤ x ∧ x ≤ 562949953421311
theorem varsO_enc : ∀ (n : Nat) (f : Nat → Int) (t : List Int), (∀ i, i < n → okN (f i)) → varsO n (encL f n ++ t) = some ((List.range n).map f, t)
  | 0, f, t, _ => by simp [varsO, encL]
  | n + 1, f, t, h => by
    have h0 := h 0 (by omega)
    unfold okN at h0
    rw [encL_shift, List.append_assoc]
    simp only [varsO]
    rw [rvO_var (by omega)]
    simp only [List.drop_left]
    rw [varsO_enc n (fun i => f (i + 1)) t (fun i hi => h (i + 1) (by omega))]
    simp only [List.range_succ_eq_map, List.map_cons, List.map_map, Option.some.injEq, Prod.mk.injEq, List.cons.injEq, and_true]
    exact ⟨by omega, by rfl⟩
theorem varsO_some : ∀ (n : Nat) (b : List Int) (v r : List Int), isB b → varsO n b = some (v, r) → v.length = n ∧ (∀ x ∈ v, okN x) ∧ b = encL (fun i => v.getD i 0) n ++ r
  | 0, b, v, r, _, h => by
    simp only [varsO, Option.some.injEq, Prod.mk.injEq] at h
    obtain ⟨rfl, rfl⟩ := h
    simp [encL]
  | n + 1, b, v, r, hb, h => by
    simp only [varsO] at h
    split at h
    · rename_i m j hr
      split at h
      · rename_i v' r' hv
        simp only [Option.some.injEq, Prod.mk.injEq] at h
        obtain ⟨rfl, rfl⟩ := h
        obtain ⟨e1, e2, e3⟩ := varsO_some n _ v' r' (isB_drop hb j) hv
        obtain ⟨h1, h2, h3, h4⟩ := rvO_some hb hr
        refine ⟨by simp [e1], ?_, ?_⟩
        · intro x hx
          rcases List.mem_cons.1 hx with hx | hx
          · subst hx; unfold okN; omega
          · exact e2 x hx
        · rw [encL_shift]
          simp only [List.getD_cons_zero, List.getD_cons_succ, Int.toNat_natCast]
          rw [← h3, List.append_assoc, ← e3, List.take_append_drop]
      · simp at h
    · simp at h
def tNum (l : List Int) (i : Nat) : Int :=
  if i = 0 then l.getD 0 0 else if i = 1 then l.getD 1 0 - l.getD 0 0 else zz (l.getD i 0 - l.getD (i - 1) 0 - (l.getD (i - 1) 0 - l.getD (i - 2) 0))
def riseTo (l : List Int) (n : Nat) : Prop := ∀ i, i < n → 0 ≤ l.getD i 0 ∧ l.getD i 0 ≤ 1099511627776 ∧ (0 < i → l.getD (i - 1) 0 < l.getD i 0)
instance (l : List Int) (n : Nat) : Decidable (riseTo l n) := inferInstanceAs (Decidable (∀ i, i < n → _))
def riseOk (l : List Int) : Prop := riseTo l l.length ∧ 1 ≤ l.length ∧ l.length ≤ 60
instance (l : List Int) : Decidable (riseOk l) := inferInstanceAs (Decidable (_ ∧ _))
def timesL (l : List Int) : List Int := encL (tNum l) l.length
def timesS (l : List Int) : ByteArray := if riseOk l then strOfNums (timesL l) else ⟨#[]⟩
theorem tNum_ok {l : List Int} {n i : Nat} (h : riseTo l n) (hi : i < n) : okN (tNum l i) := by
  unfold tNum okN
  have h0 := h i hi
  split
  · subst_vars; omega
  · split
    · subst_vars; have h1 := h 0 (by omega); have := h0.2.2 (by omega); simp only [Nat.sub_self] at this; omega
    · have h1 := h (i - 1) (by omega)
      have h2 := h (i - 2) (by omega)
      have h3 := h0.2.2 (by omega)
      have h4 := h1.2.2 (by omega)
      rw [show i - 1 - 1 = i - 2 by omega] at h4
      have := zz_rng (n := l.getD i 0 - l.getD (i - 1) 0 - (l.getD (i - 1) 0 - l.getD (i - 2) 0)) (by omega) (by omega)
      omega
def vNum (l : List Int) (i : Nat) : Int := zz (l.getD i 0 - (if i = 0 then 0 else l.getD (i - 1) 0))
def valTo (l : List Int) (n : Nat) : Prop := ∀ i, i < n → -1099511627776 ≤ l.getD i 0 ∧ l.getD i 0 ≤ 1099511627776
instance (l : List Int) (n : Nat) : Decidable (valTo l n) := inferInstanceAs (Decidable (∀ i, i < n → _))
def valOk (l : List Int) : Prop := valTo l l.length ∧ 1 ≤ l.length ∧ l.length ≤ 60
instance (l : List Int) : Decidable (valOk l) := inferInstanceAs (Decidable (_ ∧ _))
def valuesL (l : List Int) : List Int := encL (vNum l) l.length
def valuesS (l : List Int) : ByteArray := if valOk l then strOfNums (valuesL l) else ⟨#[]⟩
theorem vNum_ok {l : List Int} {n i : Nat} (h : valTo l n) (hi : i < n) : okN (vNum l i) := by
  unfold vNum okN
  have h0 := h i hi
  split
  · have := zz_rng (n := l.getD i 0 - 0) (by omega) (by omega)
    omega
  · have h1 := h (i - 1) (by omega)
    have := zz_rng (n := l.getD i 0 - l.getD (i - 1) 0) (by omega) (by omega)
    omega
structure Rd where
  s : ByteArray
  ok : Bool
def rdNum (r : Rd) : Int × Rd := if r.ok && decide (0 < (rv r.s).2) then ((rv r.s).1, ⟨r.s.extract (rv r.s).2.toNat r.s.size, true⟩) else (0, ⟨r.s, false⟩)
def rdZag (r : Rd) : Int × Rd := (uz (rdNum r).1, ⟨(rdNum r).2.s, (rdNum r).2.ok && (decide (0 ≤ (rdNum r).1) && decide ((rdNum r).1 ≤ 281474976710656))⟩)
theorem rdNum_var {s : ByteArray} {n : Int} {t : List Int} (hn : okN n) (h : bytes s = varL n.toNat ++ t) : ∃ s', rdNum ⟨s, true⟩ = (n, ⟨s', true⟩) ∧ bytes s' = t := by
  unfold okN at hn
  have h1 : rvO (bytes s) = some (n.toNat, (varL n.toNat).length) := by rw [h]; exact rvO_var (by omega) t
  have hp := varL_pos n.toNat
  have h2 : rv s = (n, ((varL n.toNat).length : Int)) := by
    unfold rv; rw [h1]; simp only [Prod.mk.injEq, and_true]; omega
  refine ⟨s.extract (varL n.toNat).length s.size, ?_, ?_⟩
  · unfold rdNum
    simp only [h2, Bool.true_and]
    rw [if_pos (by simpa using hp)]
    simp
  · rw [bytes_extract, ← bytes_length, List.take_length, h, List.drop_left]
theorem rdZag_var {s : ByteArray} {n : Int} {t : List Int} (h0 : -140737488355328 ≤ n) (h1 : n ≤ 140737488355328) (h : bytes s = varL (zz n).toNat ++ t) : ∃ s', rdZag ⟨s, true⟩ = (n, ⟨s', true⟩) ∧ bytes s' = t := by
  have hz := zz_rng h0 h1
  obtain ⟨s', h2, h3⟩ := rdNum_var (n := zz n) (by unfold okN; omega) h
  refine ⟨s', ?_, h3⟩
  unfold rdZag
  rw [h2]
  simp only [uz_zz h0 h1, hz.1, hz.2, decide_true, Bool.and_self]
def rtI : Nat → Nat → Rd → Int → Int → List Int → List Int × Rd
  | 0, _, r, _, _, out => (out, r)
  | k + 1, i, r, step, last, out => if i < 2 then
      rtI k (i + 1) (rdNum r).2 (rdNum r).1 (w64 (last + (rdNum r).1)) (out ++ [w64 (last + (rdNum r).1)])
    else rtI k (i + 1) (rdZag r).2 (w64 (step + (rdZag r).1)) (w64 (last + w64 (step + (rdZag r).1))) (out ++ [w64 (last + w64 (step + (rdZag r).1))])
theorem take_snocD (l : List Int) {i : Nat} (h : i < l.length) : l.take (i + 1) = l.take i ++ [l.getD i 0] := by
  rw [List.take_succ_eq_append_getElem h]; simp [List.getD, h]
theorem rtI_dec {l : List Int} {t : List Int} (hl : riseTo l l.length) : ∀ (k i : Nat) (s : ByteArray) (step : Int), i + k = l.length → bytes s = encL (fun j => tNum l (i + j)) k ++ t →
    (2 ≤ i → step = l.getD (i - 1) 0 - l.getD (i - 2) 0) → (i = 1 → step = l.getD 0 0) → ∃ s', rtI k i ⟨s, true⟩ step (if i = 0 then 0 else l.getD (i - 1) 0) (l.take i) = (l, ⟨s', true⟩) ∧ bytes s' = t
  | 0, i, s, step, hi, hs, _, _ => by
    refine ⟨s, ?_, by simpa [encL] using hs⟩
    simp only [rtI, Prod.mk.injEq, and_true]
    rw [List.take_of_length_le (by omega)]
  | k + 1, i, s, step, hi, hs, h2, h1 => by
    rw [encL_shift, List.append_assoc] at hs
    simp only [Nat.add_zero] at hs
    have h0 := hl i (by omega)
    have hs' : encL (fun j => tNum l (i + (j + 1))) k = encL (fun j => tNum l (i + 1 + j)) k := encL_congr fun j _ => by rw [show i + (j + 1) = i + 1 + j by omega]
    rw [hs'] at hs
    simp only [rtI]
    by_cases hi2 : i < 2
    · rw [if_pos hi2]
      obtain ⟨s', e1, e2⟩ := rdNum_var (tNum_ok hl (by omega)) hs
      rw [e1]
      simp only
      have hlast : w64 ((if i = 0 then 0 else l.getD (i - 1) 0) + tNum l i) = l.getD i 0 := by
        unfold tNum
        by_cases hi0 : i = 0
        · subst hi0; simp only [if_true, Int.zero_add]; exact wJ (by omega) (by omega)
        · have : i = 1 := by omega
          subst this
          simp only [Nat.succ_ne_self, if_false, if_true, Nat.one_ne_zero, Nat.sub_self]
          rw [wJ] <;> omega
      rw [hlast, ← take_snocD l (by omega)]
      have := rtI_dec hl k (i + 1) s' (tNum l i) (by omega) e2 (fun h => by
        have : i = 1 := by omega
        subst this; simp [tNum]) (fun h => by
        have : i = 0 := by omega
        subst this; simp [tNum])
      simpa using this
    · rw [if_neg hi2]
      have hi1 := hl (i - 1) (by omega)
      have hi3 := hl (i - 2) (by omega)
      have e : tNum l i = zz (l.getD i 0 - l.getD (i - 1) 0 - (l.getD (i - 1) 0 - l.getD (i - 2) 0)) := by
        unfold tNum; rw [if_neg (by omega), if_neg (by omega)]
      rw [e] at hs
      have a1 := h0.2.2 (by omega)
      have a2 := hi1.2.2 (by omega)
      rw [show i - 1 - 1 = i - 2 by omega] at a2
      obtain ⟨s', e1, e2⟩ := rdZag_var (by omega) (by omega) hs
      rw [e1]
      have e3 := h2 (by omega)
      subst e3
      simp only
      rw [wJ (x := l.getD (i - 1) 0 - l.getD (i - 2) 0 + (l.getD i 0 - l.getD (i - 1) 0 - (l.getD (i - 1) 0 - l.getD (i - 2) 0))) (by omega) (by omega),
        show l.getD (i - 1) 0 - l.getD (i - 2) 0 + (l.getD i 0 - l.getD (i - 1) 0 - (l.getD (i - 1) 0 - l.getD (i - 2) 0)) = l.getD i 0 - l.getD (i - 1) 0 by omega]
      rw [if_neg (by omega), show l.getD (i - 1) 0 + (l.getD i 0 - l.getD (i - 1) 0) = l.getD i 0 by omega, wJ (x := l.getD i 0) (by omega) (by omega), ← take_snocD l (by omega)]
      have := rtI_dec hl k (i + 1) s' (l.getD i 0 - l.getD (i - 1) 0) (by omega) e2 (fun h => by
        rw [show i + 1 - 1 = i by omega, show i + 1 - 2 = i - 1 by omega]) (fun h => by omega)
      simpa using this
def isPre (t s : ByteArray) : Bool := decide (t.size ≤ s.size) && decide (s.extract 0 t.size = t)
theorem isPre_iff (t s : ByteArray) : isPre t s = true ↔ bytes t <+: bytes s := by
  unfold isPre
  simp only [Bool.and_eq_true, decide_eq_true_eq]
  rw [← bytes_inj, bytes_extract, List.drop_zero, List.prefix_iff_eq_take, bytes_length]
  constructor
  · rintro ⟨_, h⟩; exact h.symm
  · intro h
    refine ⟨?_, h.symm⟩
    have := congrArg List.length h
    rw [List.length_take, bytes_length, bytes_length] at this
    omega
theorem size_zero {s : ByteArray} (h : s.size = 0) : s = ⟨#[]⟩ := by
  apply str_inj; rw [bytes_empty]; apply List.eq_nil_of_length_eq_zero; rw [bytes_length]; exact h
theorem ne_nil_size {s : ByteArray} (h : s ≠ ⟨#[]⟩) : 0 < s.size := by
  rcases Nat.eq_zero_or_pos s.size with h1 | h1
  · exact absurd (size_zero h1) h
  · exact h1
def TimesAt (s : ByteArray) (n : Int) (l : List Int) : Prop := riseOk l ∧ (l.length : Int) = n ∧ timesL l <+: bytes s
theorem TimesAt.dec {s : ByteArray} {n : Int} {l : List Int} (h : TimesAt s n l) : ∃ r, rtI n.toNat 0 ⟨s, true⟩ 0 0 [] = (l, ⟨r, true⟩) := by
  obtain ⟨h1, h2, t, h3⟩ := h
  obtain ⟨r, h4, _⟩ := rtI_dec (t := t) h1.1 n.toNat 0 s 0 (by omega) (by
    rw [← h3]; unfold timesL; simp only [Nat.zero_add]; rw [show n.toNat = l.length by omega]) (by omega) (by omega)
  exact ⟨r, by simpa using h4⟩
theorem TimesAt.uniq {s : ByteArray} {n : Int} {l l' : List Int} (h : TimesAt s n l) (h' : TimesAt s n l') : l = l' := by
  obtain ⟨r, h1⟩ := h.dec
  obtain ⟨r', h2⟩ := h'.dec
  rw [h1] at h2
  simp only [Prod.mk.injEq] at h2
  exact h2.1
open Classical in
noncomputable def rtimes (s : ByteArray) (n : Int) : List Int × Int := if h : ∃ l, TimesAt s n l then (Classical.choose h, ((timesL (Classical.choose h)).length : Int)) else ([], 0)
theorem rtimes_eq {s : ByteArray} {n : Int} {l : List Int} (h : TimesAt s n l) : rtimes s n = (l, ((timesL l).length : Int)) := by
  have hx : ∃ l, TimesAt s n l := ⟨l, h⟩
  unfold rtimes
  rw [dif_pos hx, TimesAt.uniq (Classical.choose_spec hx) h]
theorem rtimes_none {s : ByteArray} {n : Int} (h : ¬∃ l, TimesAt s n l) : rtimes s n = ([], 0) := by
  unfold rtimes; rw [dif_neg h]
theorem rtimes_cases (s : ByteArray) (n : Int) : (∃ l, TimesAt s n l ∧ rtimes s n = (l, ((timesL l).length : Int))) ∨ ((∀ l, ¬TimesAt s n l) ∧ rtimes s n = ([], 0)) := by
  by_cases h : ∃ l, TimesAt s n l
  · obtain ⟨l, hl⟩ := h; exact .inl ⟨l, hl, rtimes_eq hl⟩
  · exact .inr ⟨fun l hl => h ⟨l, hl⟩, rtimes_none h⟩
theorem rtimes_rng (s : ByteArray) (n : Int) : 0 ≤ (rtimes s n).2 ∧ (rtimes s n).2 ≤ s.size ∧ (rtimes s n).1.length ≤ 60 := by
  rcases rtimes_cases s n with ⟨l, h, e⟩ | ⟨_, e⟩
  · rw [e]
    have := h.2.2.length_le
    rw [bytes_length] at this
    have := h.1.2
    simp only; omega
  · rw [e]; simp
theorem rtI_len : ∀ (k i : Nat) (r : Rd) (a b : Int) (out : List Int), (rtI k i r a b out).1.length = out.length + k
  | 0, _, _, _, _, _ => rfl
  | k + 1, i, r, a, b, out => by
    simp only [rtI]
    split <;> (rw [rtI_len k]; simp; omega)
def rtimesI (s : ByteArray) (n : Int) : List Int × Int := if 1 ≤ n ∧ n ≤ 60 then
    (if (rtI n.toNat 0 ⟨s, true⟩ 0 0 []).2.ok && (decide (timesS (rtI n.toNat 0 ⟨s, true⟩ 0 0 []).1 ≠ ⟨#[]⟩) && isPre (timesS (rtI n.toNat 0 ⟨s, true⟩ 0 0 []).1) s) then
      ((rtI n.toNat 0 ⟨s, true⟩ 0 0 []).1, ((timesS (rtI n.toNat 0 ⟨s, true⟩ 0 0 []).1).size : Int)) else ([], 0))
  else ([], 0)
theorem timesL_isB (l : List Int) : isB (timesL l) := encL_isB _ _
theorem timesS_ne {l : List Int} (h : timesS l ≠ ⟨#[]⟩) : riseOk l := by
  unfold timesS at h
  by_cases hr : riseOk l
  · exact hr
  · rw [if_neg hr] at h; exact absurd rfl h
theorem timesS_of {l : List Int} (h : riseOk l) : bytes (timesS l) = timesL l ∧ (timesS l).size = (timesL l).length ∧ timesS l ≠ ⟨#[]⟩ := by
  unfold timesS
  rw [if_pos h]
  refine ⟨bytes_str (timesL_isB l), size_strOfNums _, fun e => ?_⟩
  have := congrArg ByteArray.size e
  rw [size_strOfNums] at this
  have hp := encL_pos (tNum l) (n := l.length) (by have := h.2; omega)
  have e2 : (⟨#[]⟩ : ByteArray).size = 0 := rfl
  unfold timesL at this
  omega
theorem rtimesI_eq (s : ByteArray) (n : Int) : rtimesI s n = rtimes s n := by
  unfold rtimesI
  rcases rtimes_cases s n with ⟨l, h, e⟩ | ⟨h, e⟩
  · rw [e]
    obtain ⟨r, h1⟩ := h.dec
    have hl := h.1.2
    have h2 := h.2.1
    rw [if_pos (by omega), h1]
    obtain ⟨t1, t2, t3⟩ := timesS_of h.1
    simp only [t2]
    rw [if_pos]
    simp only [Bool.and_eq_true, decide_eq_true_eq, isPre_iff, t1, true_and]
    exact ⟨t3, h.2.2⟩
  · rw [e]
    by_cases hn : 1 ≤ n ∧ n ≤ 60
    · rw [if_pos hn]
      split
      · rename_i hc
        simp only [Bool.and_eq_true, decide_eq_true_eq, isPre_iff] at hc
        obtain ⟨_, hc2, hc3⟩ := hc
        have hr := timesS_ne hc2
        refine absurd ⟨hr, ?_, ?_⟩ (h (rtI n.toNat 0 ⟨s, true⟩ 0 0 []).1)
        · rw [rtI_len]; simp; omega
        · rw [← (timesS_of hr).1]; exact hc3
      · rfl
    · rw [if_neg hn]
def varsV : Nat → List Int → List Int
  | 0, _ => []
  | k + 1, b => match rvO b with
    | some (n, j) => (n : Int) :: varsV k (b.drop j)
    | none => []
theorem varsV_of : ∀ (n : Nat) (b v r : List Int), varsO n b = some (v, r) → varsV n b = v
  | 0, b, v, r, h => by simp only [varsO, Option.some.injEq, Prod.mk.injEq] at h; rw [← h.1]; rfl
  | n + 1, b, v, r, h => by
    simp only [varsO] at h
    split at h
    · rename_i m j hr
      simp only [varsV, hr]
      split at h
      · rename_i v' r' hv
        simp only [Option.some.injEq, Prod.mk.injEq] at h
        rw [varsV_of n _ _ _ hv, ← h.1]
      · simp at h
    · simp at h
def rtNx (i : Nat) (v out : List Int) : Int := w64 (out.getD (i - 1) 0 + (if 1 < i then w64 (w64 (out.getD (i - 1) 0 - out.getD (i - 2) 0) + uz (v.getD i 0)) else v.getD i 0))
def rtS : Nat → Nat → List Int → List Int → Option (List Int)
  | 0, _, _, out => some out
  | k + 1, i, v, out =>
    if 0 ≤ rtNx i v out ∧
       rtNx i v out ≤ 1099511627776 then
      rtS k (i + 1) v (out ++ [rtNx i v out])
    else none
def rtimesS (s : ByteArray) (n : Int) : List Int × Int := if 1 ≤ n ∧ n ≤ 60 then (match varsO n.toNat (bytes s) with
    | some (v, r) => match rtS (n.toNat - 1) 1 v [v.getD 0 0] with
      | some out => if timesS out = s.extract 0 (s.size - r.length) then (out, ((s.size - r.length : Nat) : Int)) else ([], 0)
      | none => ([], 0)
    | none => ([], 0)) else ([], 0)
theorem getD_take {l : List Int} {i j : Nat} (h : i < j) : (l.take j).getD i 0 = l.getD i 0 := by
  simp [List.getD, List.getElem?_take, h]
theorem map_range_getD (f : Nat → Int) {n i : Nat} (h : i < n) : ((List.range n).map f).getD i 0 = f i := by
  simp [List.getD, h]
theorem rtS_dec {l : List Int} (hl : riseTo l l.length) : ∀ (k i : Nat), 1 ≤ i → i + k = l.length → rtS k i ((List.range l.length).map (tNum l)) (l.take i) = some l
  | 0, i, _, hi => by simp only [rtS]; rw [List.take_of_length_le (by omega)]
  | k + 1, i, h1, hi => by
    have h0 := hl i (by omega)
    have h2 := hl (i - 1) (by omega)
    have h3 := h0.2.2 (by omega)
    have e : rtNx i ((List.range l.length).map (tNum l)) (l.take i) = l.getD i 0 := by
      unfold rtNx
      rw [map_range_getD _ (by omega), getD_take (by omega)]
      by_cases hi1 : 1 < i
      · have h4 := hl (i - 2) (by omega)
        have h5 := h2.2.2 (by omega)
        rw [show i - 1 - 1 = i - 2 by omega] at h5
        rw [if_pos hi1, getD_take (by omega)]
        unfold tNum
        rw [if_neg (by omega), if_neg (by omega), uz_zz (by omega) (by omega)]
        rw [wJ (x := l.getD (i - 1) 0 - l.getD (i - 2) 0) (by omega) (by omega)]
        rw [wJ (x := l.getD (i - 1) 0 - l.getD (i - 2) 0 + (l.getD i 0 - l.getD (i - 1) 0 - (l.getD (i - 1) 0 - l.getD (i - 2) 0))) (by omega) (by omega)]
        rw [wJ] <;> omega
      · have : i = 1 := by omega
        subst this
        rw [if_neg hi1]
        unfold tNum
        simp only [Nat.one_ne_zero, if_false, if_true, Nat.sub_self] at *
        rw [wJ] <;> omega
    simp only [rtS]
    rw [e, if_pos ⟨h0.1, h0.2.1⟩, ← take_snocD l (by omega)]
    exact rtS_dec hl k (i + 1) (by omega) (by omega)
theorem rtS_len : ∀ (k i : Nat) (v out o : List Int), rtS k i v out = some o → o.length = out.length + k
  | 0, _, _, _, _, h => by simp only [rtS, Option.some.injEq] at h; subst h; rfl
  | k + 1, i, v, out, o, h => by
    simp only [rtS] at h
    split at h
    · have := rtS_len k _ _ _ _ h
      simp at this; omega
    · simp at h
theorem rtimesS_eq (s : ByteArray) (n : Int) : rtimesS s n = rtimes s n := by
  unfold rtimesS
  rcases rtimes_cases s n with ⟨l, h, e⟩ | ⟨h, e⟩
  · rw [e]
    have hl := h.1.2
    have h2 := h.2.1
    rw [if_pos (by omega)]
    obtain ⟨t, ht⟩ := h.2.2
    have hv : varsO n.toNat (bytes s) = some ((List.range l.length).map (tNum l), t) := by
      rw [← ht]; unfold timesL; rw [show n.toNat = l.length by omega]
      exact varsO_enc _ _ _ fun i hi => tNum_ok h.1.1 hi
    rw [hv]
    simp only
    have h3 := rtS_dec h.1.1 (n.toNat - 1) 1 (by omega) (by omega)
    have h4 : [((List.range l.length).map (tNum l)).getD 0 0] = l.take 1 := by
      rw [take_snocD l (i := 0) (by omega), map_range_getD _ (by omega)]; rfl
    rw [h4, h3]
    simp only
    obtain ⟨t1, t2, t3⟩ := timesS_of h.1
    have hsz : s.size - t.length = (timesL l).length := by rw [← bytes_length, ← ht]; simp
    rw [hsz, if_pos]
    rw [← bytes_inj, t1, bytes_extract, ← ht]; simp
  · rw [e]
    by_cases hn : 1 ≤ n ∧ n ≤ 60
    · rw [if_pos hn]
      split
      · rename_i v r hv
        obtain ⟨e1, e2, e3⟩ := varsO_some _ _ _ _ (isB_bytes s) hv
        split
        · rename_i out ho
          split
          · rename_i hc
            have hlen := rtS_len _ _ _ _ _ ho
            have hne : timesS out ≠ ⟨#[]⟩ := by
              rw [hc]
              intro h0
              have := congrArg (fun x => (bytes x).length) h0
              simp only [bytes_extract, bytes_empty] at this
              rw [List.drop_zero, List.length_take, bytes_length] at this
              have h5 := congrArg List.length e3
              rw [List.length_append, bytes_length] at h5
              have h6 := encL_pos (fun i => v.getD i 0) (n := n.toNat) (by omega)
              simp at this
              omega
            have hr := timesS_ne hne
            refine absurd ⟨hr, by simp at hlen; omega, ?_⟩ (h out)
            rw [← (timesS_of hr).1, hc, bytes_extract, List.drop_zero]
            exact List.take_prefix _ _
          · rfl
        · rfl
      · rfl
    · rw [if_neg hn]
def ValuesAt (s : ByteArray) (n : Int) (l : List Int) : Prop := valOk l ∧ (l.length : Int) = n ∧ valuesL l <+: bytes s
def rvI : Nat → Rd → Int → List Int → List Int × Rd
  | 0, r, _, out => (out, r)
  | k + 1, r, last, out => rvI k (rdZag r).2 (w64 (last + (rdZag r).1)) (out ++ [w64 (last + (rdZag r).1)])
theorem rvI_dec {l : List Int} {t : List Int} (hl : valTo l l.length) : ∀ (k i : Nat) (s : ByteArray), i + k = l.length → bytes s = encL (fun j => vNum l (i + j)) k ++ t →
    ∃ s', rvI k ⟨s, true⟩ (if i = 0 then 0 else l.getD (i - 1) 0) (l.take i) = (l, ⟨s', true⟩) ∧ bytes s' = t
  | 0, i, s, hi, hs => by
    refine ⟨s, ?_, by simpa [encL] using hs⟩
    simp only [rvI, Prod.mk.injEq, and_true]
    rw [List.take_of_length_le (by omega)]
  | k + 1, i, s, hi, hs => by
    rw [encL_shift, List.append_assoc] at hs
    simp only [Nat.add_zero] at hs
    have h0 := hl i (by omega)
    have hs' : encL (fun j => vNum l (i + (j + 1))) k = encL (fun j => vNum l (i + 1 + j)) k := encL_congr fun j _ => by rw [show i + (j + 1) = i + 1 + j by omega]
    rw [hs'] at hs
    have hb : -1099511627776 ≤ (if i = 0 then 0 else l.getD (i - 1) 0) ∧ (if i = 0 then 0 else l.getD (i - 1) 0) ≤ 1099511627776 := by
      split
      · omega
      · have := hl (i - 1) (by omega); omega
    unfold vNum at hs
    obtain ⟨s', e1, e2⟩ := rdZag_var (by omega) (by omega) hs
    simp only [rvI]
    rw [e1]
    simp only
    rw [show (if i = 0 then 0 else l.getD (i - 1) 0) + (l.getD i 0 - (if i = 0 then 0 else l.getD (i - 1) 0)) = l.getD i 0 by omega, wJ (x := l.getD i 0) (by omega) (by omega), ← take_snocD l (by omega)]
    have := rvI_dec hl k (i + 1) s' (by omega) e2
    simpa using this
theorem ValuesAt.dec {s : ByteArray} {n : Int} {l : List Int} (h : ValuesAt s n l) : ∃ r, rvI n.toNat ⟨s, true⟩ 0 [] = (l, ⟨r, true⟩) := by
  obtain ⟨h1, h2, t, h3⟩ := h
  obtain ⟨r, h4, _⟩ := rvI_dec (t := t) h1.1 n.toNat 0 s (by omega) (by
    rw [← h3]; unfold valuesL; simp only [Nat.zero_add]; rw [show n.toNat = l.length by omega])
  exact ⟨r, by simpa using h4⟩
theorem ValuesAt.uniq {s : ByteArray} {n : Int} {l l' : List Int} (h : ValuesAt s n l) (h' : ValuesAt s n l') : l = l' := by
  obtain ⟨r, h1⟩ := h.dec
  obtain ⟨r', h2⟩ := h'.dec
  rw [h1] at h2
  simp only [Prod.mk.injEq] at h2
  exact h2.1
open Classical in
noncomputable def rvalues (s : ByteArray) (n : Int) : List Int × Int := if h : ∃ l, ValuesAt s n l then (Classical.choose h, ((valuesL (Classical.choose h)).length : Int)) else ([], 0)
theorem rvalues_eq {s : ByteArray} {n : Int} {l : List Int} (h : ValuesAt s n l) : rvalues s n = (l, ((valuesL l).length : Int)) := by
  have hx : ∃ l, ValuesAt s n l := ⟨l, h⟩
  unfold rvalues
  rw [dif_pos hx, ValuesAt.uniq (Classical.choose_spec hx) h]
theorem rvalues_none {s : ByteArray} {n : Int} (h : ¬∃ l, ValuesAt s n l) : rvalues s n = ([], 0) := by
  unfold rvalues; rw [dif_neg h]
theorem rvalues_cases (s : ByteArray) (n : Int) : (∃ l, ValuesAt s n l ∧ rvalues s n = (l, ((valuesL l).length : Int))) ∨ ((∀ l, ¬ValuesAt s n l) ∧ rvalues s n = ([], 0)) := by
  by_cases h : ∃ l, ValuesAt s n l
  · obtain ⟨l, hl⟩ := h; exact .inl ⟨l, hl, rvalues_eq hl⟩
  · exact .inr ⟨fun l hl => h ⟨l, hl⟩, rvalues_none h⟩
theorem rvalues_rng (s : ByteArray) (n : Int) : 0 ≤ (rvalues s n).2 ∧ (rvalues s n).2 ≤ s.size ∧ (rvalues s n).1.length ≤ 60 := by
  rcases rvalues_cases s n with ⟨l, h, e⟩ | ⟨_, e⟩
  · rw [e]
    have := h.2.2.length_le
    rw [bytes_length] at this
    have := h.1.2
    simp only; omega
  · rw [e]; simp
theorem rvI_len : ∀ (k : Nat) (r : Rd) (a : Int) (out : List Int), (rvI k r a out).1.length = out.length + k
  | 0, _, _, _ => rfl
  | k + 1, r, a, out => by
    simp only [rvI]
    rw [rvI_len k]; simp; omega
def rvaluesI (s : ByteArray) (n : Int) : List Int × Int := if 1 ≤ n ∧ n ≤ 60 then
    (if (rvI n.toNat ⟨s, true⟩ 0 []).2.ok && (decide (valuesS (rvI n.toNat ⟨s, true⟩ 0 []).1 ≠ ⟨#[]⟩) && isPre (valuesS (rvI n.toNat ⟨s, true⟩ 0 []).1) s) then
      ((rvI n.toNat ⟨s, true⟩ 0 []).1, ((valuesS (rvI n.toNat ⟨s, true⟩ 0 []).1).size : Int)) else ([], 0))
  else ([], 0)
theorem valuesL_isB (l : List Int) : isB (valuesL l) := encL_isB _ _
theorem valuesS_ne {l : List Int} (h : valuesS l ≠ ⟨#[]⟩) : valOk l := by
  unfold valuesS at h
  by_cases hr : valOk l
  · exact hr
  · rw [if_neg hr] at h; exact absurd rfl h
theorem valuesS_of {l : List Int} (h : valOk l) : bytes (valuesS l) = valuesL l ∧ (valuesS l).size = (valuesL l).length ∧ valuesS l ≠ ⟨#[]⟩ := by
  unfold valuesS
  rw [if_pos h]
  refine ⟨bytes_str (valuesL_isB l), size_strOfNums _, fun e => ?_⟩
  have := congrArg ByteArray.size e
  rw [size_strOfNums] at this
  have hp := encL_pos (vNum l) (n := l.length) (by have := h.2; omega)
  have e2 : (⟨#[]⟩ : ByteArray).size = 0 := rfl
  unfold valuesL at this
  omega
theorem rvaluesI_eq (s : ByteArray) (n : Int) : rvaluesI s n = rvalues s n := by
  unfold rvaluesI
  rcases rvalues_cases s n with ⟨l, h, e⟩ | ⟨h, e⟩
  · rw [e]
    obtain ⟨r, h1⟩ := h.dec
    have hl := h.1.2
    have h2 := h.2.1
    rw [if_pos (by omega), h1]
    obtain ⟨t1, t2, t3⟩ := valuesS_of h.1
    simp only [t2]
    rw [if_pos]
    simp only [Bool.and_eq_true, decide_eq_true_eq, isPre_iff, t1, true_and]
    exact ⟨t3, h.2.2⟩
  · rw [e]
    by_cases hn : 1 ≤ n ∧ n ≤ 60
    · rw [if_pos hn]
      split
      · rename_i hc
        simp only [Bool.and_eq_true, decide_eq_true_eq, isPre_iff] at hc
        obtain ⟨_, hc2, hc3⟩ := hc
        have hr := valuesS_ne hc2
        refine absurd ⟨hr, ?_, ?_⟩ (h (rvI n.toNat ⟨s, true⟩ 0 []).1)
        · rw [rvI_len]; simp; omega
        · rw [← (valuesS_of hr).1]; exact hc3
      · rfl
    · rw [if_neg hn]
def rvSp : Nat → Nat → List Int → Int → List Int → Option (List Int)
  | 0, _, _, _, out => some out
  | k + 1, i, v, last, out => if -1099511627776 ≤ w64 (last + uz (v.getD i 0)) ∧ w64 (last + uz (v.getD i 0)) ≤ 1099511627776 then
      rvSp k (i + 1) v (w64 (last + uz (v.getD i 0))) (out ++ [w64 (last + uz (v.getD i 0))]) else none
def rvaluesS (s : ByteArray) (n : Int) : List Int × Int := if 1 ≤ n ∧ n ≤ 60 then (match varsO n.toNat (bytes s) with
    | some (v, r) => match rvSp n.toNat 0 v 0 [] with
      | some out => if valuesS out = s.extract 0 (s.size - r.length) then (out, ((s.size - r.length : Nat) : Int)) else ([], 0)
      | none => ([], 0)
    | none => ([], 0)) else ([], 0)
theorem rvSp_dec {l : List Int} (hl : valTo l l.length) : ∀ (k i : Nat), i + k = l.length → rvSp k i ((List.range l.length).map (vNum l)) (if i = 0 then 0 else l.getD (i - 1) 0) (l.take i) = some l
  | 0, i, hi => by simp only [rvSp]; rw [List.take_of_length_le (by omega)]
  | k + 1, i, hi => by
    have h0 := hl i (by omega)
    have hb : -1099511627776 ≤ (if i = 0 then 0 else l.getD (i - 1) 0) ∧ (if i = 0 then 0 else l.getD (i - 1) 0) ≤ 1099511627776 := by
      split
      · omega
      · have := hl (i - 1) (by omega); omega
    have e : w64 ((if i = 0 then 0 else l.getD (i - 1) 0) + uz (((List.range l.length).map (vNum l)).getD i 0)) = l.getD i 0 := by
      rw [map_range_getD _ (by omega)]
      unfold vNum
      rw [uz_zz (by omega) (by omega), wJ] <;> omega
    simp only [rvSp]
    rw [e, if_pos ⟨h0.1, h0.2⟩, ← take_snocD l (by omega)]
    have := rvSp_dec hl k (i + 1) (by omega)
    simpa using this
theorem rvSp_len : ∀ (k i : Nat) (v : List Int) (last : Int) (out o : List Int), rvSp k i v last out = some o → o.length = out.length + k
  | 0, _, _, _, _, _, h => by simp only [rvSp, Option.some.injEq] at h; subst h; rfl
  | k + 1, i, v, last, out, o, h => by
    simp only [rvSp] at h
    split at h
    · have := rvSp_len k _ _ _ _ _ h
      simp at this; omega
    · simp at h
theorem rvaluesS_eq (s : ByteArray) (n : Int) : rvaluesS s n = rvalues s n := by
  unfold rvaluesS
  rcases rvalues_cases s n with ⟨l, h, e⟩ | ⟨h, e⟩
  · rw [e]
    have hl := h.1.2
    have h2 := h.2.1
    rw [if_pos (by omega)]
    obtain ⟨t, ht⟩ := h.2.2
    have hv : varsO n.toNat (bytes s) = some ((List.range l.length).map (vNum l), t) := by
      rw [← ht]; unfold valuesL; rw [show n.toNat = l.length by omega]
      exact varsO_enc _ _ _ fun i hi => vNum_ok h.1.1 hi
    rw [hv]
    simp only
    have h3 := rvSp_dec h.1.1 n.toNat 0 (by omega)
    simp only [if_true, List.take_zero] at h3
    rw [h3]
    simp only
    obtain ⟨t1, t2, t3⟩ := valuesS_of h.1
    have hsz : s.size - t.length = (valuesL l).length := by rw [← bytes_length, ← ht]; simp
    rw [hsz, if_pos]
    rw [← bytes_inj, t1, bytes_extract, ← ht]; simp
  · rw [e]
    by_cases hn : 1 ≤ n ∧ n ≤ 60
    · rw [if_pos hn]
      split
      · rename_i v r hv
        obtain ⟨e1, e2, e3⟩ := varsO_some _ _ _ _ (isB_bytes s) hv
        split
        · rename_i out ho
          split
          · rename_i hc
            have hlen := rvSp_len _ _ _ _ _ _ ho
            have hne : valuesS out ≠ ⟨#[]⟩ := by
              rw [hc]
              intro h0
              have := congrArg (fun x => (bytes x).length) h0
              simp only [bytes_extract, bytes_empty] at this
              rw [List.drop_zero, List.length_take, bytes_length] at this
              have h5 := congrArg List.length e3
              rw [List.length_append, bytes_length] at h5
              have h6 := encL_pos (fun i => v.getD i 0) (n := n.toNat) (by omega)
              simp at this
              omega
            have hr := valuesS_ne hne
            refine absurd ⟨hr, by simp at hlen; omega, ?_⟩ (h out)
            rw [← (valuesS_of hr).1, hc, bytes_extract, List.drop_zero]
            exact List.take_prefix _ _
          · rfl
        · rfl
      · rfl
    · rw [if_neg hn]
def crcBit (c : Nat) : Nat := if c % 2 = 1 then (c / 2) ^^^ 2197175160 else c / 2
def crcBits : Nat → Nat → Nat
  | 0, c => c
  | k + 1, c => crcBits k (crcBit c)
def crcL : List Int → Nat → Nat
  | [], c => c
  | b :: t, c => crcL t (crcBits 8 (c ^^^ b.toNat))
def crcN (s : ByteArray) : Int := 4294967295 - (crcL (bytes s) 4294967295 : Nat)
theorem crcBit_lt {c : Nat} (h : c < 4294967296) : crcBit c < 4294967296 := by
  unfold crcBit
  split
  · exact Nat.xor_lt_two_pow (n := 32) (by omega) (by omega)
  · omega
theorem crcBits_lt : ∀ (k : Nat) {c : Nat}, c < 4294967296 → crcBits k c < 4294967296
  | 0, _, h => h
  | k + 1, _, h => crcBits_lt k (crcBit_lt h)
theorem xor_byte_lt {c : Nat} {b : Int} (h : c < 4294967296) (hb : 0 ≤ b ∧ b ≤ 255) : c ^^^ b.toNat < 4294967296 :=
  Nat.xor_lt_two_pow (n := 32) (by omega) (by omega)
theorem crcL_lt : ∀ (l : List Int) {c : Nat}, isB l → c < 4294967296 → crcL l c < 4294967296
  | [], _, _, h => h
  | b :: t, c, hl, h => by
    rw [isB_cons] at hl
    exact crcL_lt t hl.2 (crcBits_lt 8 (xor_byte_lt h hl.1))
theorem crcN_rng (s : ByteArray) : 0 ≤ crcN s ∧ crcN s ≤ 4294967295 := by
  have := crcL_lt (bytes s) (c := 4294967295) (isB_bytes s) (by omega)
  unfold crcN; omega
def fixL : Nat → Nat → List Int
  | 0, _ => []
  | w + 1, n => fixL w (n / 256) ++ [((n % 256 : Nat) : Int)]
theorem fixL_len : ∀ (w n : Nat), (fixL w n).length = w
  | 0, _ => rfl
  | w + 1, n => by simp [fixL, fixL_len w]
theorem fixL_isB : ∀ (w n : Nat), isB (fixL w n)
  | 0, _ => isB_nil
  | w + 1, n => by
    simp only [fixL, isB_append, isB_cons, isB_nil, and_true]
    exact ⟨fixL_isB w _, by omega⟩
theorem fixL_cons : ∀ (w n : Nat), fixL (w + 1) n = ((n / 256 ^ w % 256 : Nat) : Int) :: fixL w n
  | 0, n => by simp [fixL]
  | w + 1, n => by
    rw [fixL, fixL_cons w (n / 256), List.cons_append]
    congr 2
    rw [Nat.div_div_eq_div_mul, Nat.pow_succ, Nat.mul_comm]
def fixS (n w : Int) : ByteArray := if (1 ≤ w ∧ w ≤ 7) ∧ 0 ≤ n ∧ n.toNat / 256 ^ w.toNat = 0 then strOfNums (fixL w.toNat n.toNat) else ⟨#[]⟩
def rfN : Nat → List Int → Int → Int
  | 0, _, a => a
  | _, [], a => a
  | k + 1, b :: t, a => rfN k t (a * 256 + b)
def rfx (s : ByteArray) (w : Int) : Int × Bool := if (1 ≤ w ∧ w ≤ 7) ∧ w ≤ s.size then (rfN w.toNat (bytes s) 0, true) else (0, false)
theorem rfN_fixL : ∀ (w n : Nat) (t : List Int) (a : Int), rfN w (fixL w n ++ t) a = a * 256 ^ w + ((n % 256 ^ w : Nat) : Int)
  | 0, n, t, a => by simp [rfN, Nat.mod_one]
  | w + 1, n, t, a => by
    rw [fixL_cons, List.cons_append, rfN, rfN_fixL w n t]
    have h1 : n % 256 ^ (w + 1) = n / 256 ^ w % 256 * 256 ^ w + n % 256 ^ w := by
      rw [Nat.pow_succ, Nat.mod_mul, Nat.mul_comm (256 ^ w) (n / 256 ^ w % 256)]; omega
    rw [h1, Int.pow_succ, Int.natCast_add, Int.natCast_mul, Int.natCast_pow, Int.add_mul, Int.mul_assoc, Int.mul_comm 256 (256 ^ w), Int.add_assoc]
    rfl
theorem rfN_rng : ∀ (k : Nat) (l : List Int) (a : Int), isB l → 0 ≤ a → 0 ≤ rfN k l a ∧ rfN k l a + 1 ≤ (a + 1) * 256 ^ k
  | 0, l, a, _, h => by simp [rfN, h]
  | k + 1, [], a, _, h => by
    simp only [rfN]
    have h2 : (1 : Int) ≤ 256 ^ (k + 1) := Int.pow_pos (by omega)
    have : (a + 1) * 1 ≤ (a + 1) * 256 ^ (k + 1) := Int.mul_le_mul_of_nonneg_left h2 (by omega)
    omega
  | k + 1, b :: t, a, hl, h => by
    rw [isB_cons] at hl
    simp only [rfN]
    obtain ⟨h1, h2⟩ := rfN_rng k t (a * 256 + b) hl.2 (by omega)
    refine ⟨h1, Int.le_trans h2 ?_⟩
    have h3 : (0 : Int) ≤ 256 ^ k := Int.pow_nonneg (by omega)
    rw [Int.pow_succ, ← Int.mul_assoc, Int.mul_right_comm]
    exact Int.mul_le_mul_of_nonneg_right (by omega) h3
theorem fixS4 {n : Int} (h : 0 ≤ n) (h2 : n ≤ 4294967295) : fixS n 4 = strOfNums (fixL 4 n.toNat) := by
  unfold fixS
  rw [if_pos ⟨by omega, h, by rw [show (4 : Int).toNat = 4 by rfl]; omega⟩]
  rfl
theorem fixS4_bytes {n : Int} (h : 0 ≤ n) (h2 : n ≤ 4294967295) : bytes (fixS n 4) = fixL 4 n.toNat := by
  rw [fixS4 h h2, bytes_str (fixL_isB _ _)]
def frameS (b : ByteArray) : ByteArray := if 1 ≤ b.size ∧ b.size ≤ 2000 then fixS b.size 4 ++ fixS (crcN (fixS b.size 4 ++ b)) 4 ++ b else ⟨#[]⟩
def unfS (s : ByteArray) : ByteArray × Int × Int :=
  if (rfx s 4).2 = false then (⟨#[]⟩, 0, 1)
  else if ¬(1 ≤ (rfx s 4).1 ∧ (rfx s 4).1 ≤ 2000) then (⟨#[]⟩, 0, 2)
  else if (s.size : Int) < (rfx s 4).1 + 8 then (⟨#[]⟩, 0, 1)
  else if frameS (s.extract 8 ((rfx s 4).1 + 8).toNat) = s.extract 0 ((rfx s 4).1 + 8).toNat then (s.extract 8 ((rfx s 4).1 + 8).toNat, (rfx s 4).1 + 8, 0)
  else (⟨#[]⟩, 0, 2)
theorem frame_bytes {b : ByteArray} (h1 : 1 ≤ b.size) (h2 : b.size ≤ 2000) : bytes (frameS b) = fixL 4 b.size ++ (fixL 4 (crcN (fixS b.size 4 ++ b)).toNat ++ bytes b) := by
  have hc := crcN_rng (fixS b.size 4 ++ b)
  unfold frameS
  rw [if_pos ⟨h1, h2⟩, bytes_append, bytes_append, fixS4_bytes (by omega) (by omega), fixS4_bytes hc.1 hc.2, List.append_assoc, Int.toNat_natCast]
theorem frame_size {b : ByteArray} (h1 : 1 ≤ b.size) (h2 : b.size ≤ 2000) : (frameS b).size = b.size + 8 := by
  rw [← bytes_length, frame_bytes h1 h2]
  simp only [List.length_append, fixL_len, bytes_length]; omega
theorem unf_frame {b : ByteArray} (h1 : 1 ≤ b.size) (h2 : b.size ≤ 2000) : unfS (frameS b) = (b, (b.size : Int) + 8, 0) := by
  have hs := frame_size h1 h2
  have hr : rfx (frameS b) 4 = ((b.size : Int), true) := by
    unfold rfx
    rw [if_pos (by omega), frame_bytes h1 h2, show (4 : Int).toNat = 4 by rfl, rfN_fixL]
    simp only [Prod.mk.injEq, and_true]
    omega
  have hb : (frameS b).extract 8 ((b.size : Int) + 8).toNat = b := by
    apply str_inj
    rw [bytes_extract, List.take_of_length_le (by rw [bytes_length]; omega), frame_bytes h1 h2, ← List.append_assoc, List.drop_left' (by simp [fixL_len])]
  have hw : (frameS b).extract 0 ((b.size : Int) + 8).toNat = frameS b := by
    apply str_inj
    rw [bytes_extract, List.drop_zero, List.take_of_length_le (by rw [bytes_length]; omega)]
  unfold unfS
  simp only [hr, hb, hw]
  rw [if_neg (by simp), if_neg (by omega), if_neg (by omega)]
  simp
theorem unf_cases (s : ByteArray) : (unfS s).1 = ⟨#[]⟩ ∧ (unfS s).2.1 = 0 ∧ ((unfS s).2.2 = 1 ∨ (unfS s).2.2 = 2) ∨
    ∃ b : ByteArray, unfS s = (b, (b.size : Int) + 8, 0) ∧ 1 ≤ b.size ∧ b.size ≤ 2000 ∧ b.size + 8 ≤ s.size ∧ s.extract 0 (b.size + 8) = frameS b := by
  unfold unfS
  split
  · exact .inl (by simp)
  · split
    · exact .inl (by simp)
    · split
      · exact .inl (by simp)
      · split
        · rename_i h1 h2 h3 h4
          have hz : (s.extract 8 ((rfx s 4).1 + 8).toNat).size = (rfx s 4).1.toNat := by
            rw [← bytes_length, bytes_extract, List.length_drop, List.length_take, bytes_length]; omega
          refine .inr ⟨s.extract 8 ((rfx s 4).1 + 8).toNat, ?_, by omega, by omega, by omega, ?_⟩
          · simp only [Prod.mk.injEq, true_and, and_true]; omega
          · rw [h4, hz]; congr 1; omega
        · exact .inl (by simp)
abbrev Pt := Int × Int
def ptsOk (l : List Pt) : Prop := riseTo (l.map (·.1)) l.length ∧ valTo (l.map (·.2)) l.length ∧ l.length ≤ 60
instance (l : List Pt) : Decidable (ptsOk l) := inferInstanceAs (Decidable (_ ∧ _))
def blockB (l : List Pt) : ByteArray := varS l.length ++ timesS (l.map (·.1)) ++ valuesS (l.map (·.2))
def blockS (l : List Pt) : ByteArray := if ptsOk l ∧ l ≠ [] then frameS (blockB l) else ⟨#[]⟩
def BlockAt (s : ByteArray) (l : List Pt) : Prop := ptsOk l ∧ l ≠ [] ∧ s = blockS l ∧ s ≠ ⟨#[]⟩
def rblockI (s : ByteArray) (times values : List Int) (size code n : Int) : List Pt × Bool :=
  if code ≠ 0 ∨ size = 0 then ([], false)
  else if (times.length : Int) ≠ n ∨ (values.length : Int) ≠ n then ([], false)
  else if blockS (times.zip values) = s then (times.zip values, true) else ([], false)
noncomputable def tailT (s : ByteArray) : List Int × Int := rtimes ((unfS s).1.extract (rv (unfS s).1).2.toNat (unfS s).1.size) (rv (unfS s).1).1
noncomputable def tailV (s : ByteArray) : List Int × Int := rvalues ((unfS s).1.extract ((rv (unfS s).1).2 + (tailT s).2).toNat (unfS s).1.size) (rv (unfS s).1).1
noncomputable def blockI (s : ByteArray) : List Pt × Bool := rblockI s (tailT s).1 (tailV s).1 (rv (unfS s).1).2 (unfS s).2.2 (rv (unfS s).1).1
noncomputable def blockSp (s : ByteArray) : List Pt × Bool :=
  if (rv (unfS s).1).2 = 0 ∨ (unfS s).2.1 ≠ s.size then ([], false)
  else if (tailT s).2 = 0 then ([], false)
  else if (tailV s).2 = 0 ∨ (rv (unfS s).1).2 + (tailT s).2 + (tailV s).2 ≠ (unfS s).1.size then ([], false)
  else ((tailT s).1.zip (tailV s).1, true)
theorem blockB_bytes {l : List Pt} (h : ptsOk l) (hn : l ≠ []) : bytes (blockB l) = varL l.length ++ (timesL (l.map (·.1)) ++ valuesL (l.map (·.2))) := by
  have hp : 0 < l.length := List.length_pos_iff.2 hn
  have h1 : riseOk (l.map (·.1)) := ⟨by rw [List.length_map]; exact h.1, by rw [List.length_map]; omega, by rw [List.length_map]; exact h.2.2⟩
  have h2 : valOk (l.map (·.2)) := ⟨by rw [List.length_map]; exact h.2.1, by rw [List.length_map]; omega, by rw [List.length_map]; exact h.2.2⟩
  have h3 := h.2.2
  unfold blockB
  rw [bytes_append, bytes_append, (timesS_of h1).1, (valuesS_of h2).1, List.append_assoc]
  congr 1
  unfold varS
  rw [if_pos (by omega), bytes_str (varL_isB _)]; rfl
theorem extract_bytes_drop {s : ByteArray} {a b : List Int} (h : bytes s = a ++ b) : bytes (s.extract a.length s.size) = b := by
  rw [bytes_extract, List.take_of_length_le (by rw [bytes_length]; omega), h, List.drop_left]
theorem block_parts {s : ByteArray} {l : List Pt} (h : BlockAt s l) : unfS s = (blockB l, (s.size : Int), 0) ∧ rv (blockB l) = ((l.length : Int), ((varL l.length).length : Int)) ∧
    tailT s = (l.map (·.1), ((timesL (l.map (·.1))).length : Int)) ∧ tailV s = (l.map (·.2), ((valuesL (l.map (·.2))).length : Int)) := by
  obtain ⟨hp, hn, hs, hne⟩ := h
  have hb := blockB_bytes hp hn
  have hlen : 0 < l.length := List.length_pos_iff.2 hn
  have h3 := hp.2.2
  unfold blockS at hs
  rw [if_pos ⟨hp, hn⟩] at hs
  have hz : 1 ≤ (blockB l).size ∧ (blockB l).size ≤ 2000 := by
    apply Classical.byContradiction
    intro hc
    apply hne
    rw [hs]; unfold frameS; rw [if_neg hc]
  have hu : unfS s = (blockB l, (s.size : Int), 0) := by
    rw [hs, unf_frame hz.1 hz.2, frame_size hz.1 hz.2]; simp
  have hr : rv (blockB l) = ((l.length : Int), ((varL l.length).length : Int)) := by
    unfold rv; rw [hb, rvO_var (by omega)]
  have h1 : riseOk (l.map (·.1)) := ⟨by rw [List.length_map]; exact hp.1, by rw [List.length_map]; omega, by rw [List.length_map]; exact hp.2.2⟩
  have h2 : valOk (l.map (·.2)) := ⟨by rw [List.length_map]; exact hp.2.1, by rw [List.length_map]; omega, by rw [List.length_map]; exact hp.2.2⟩
  have ht : tailT s = (l.map (·.1), ((timesL (l.map (·.1))).length : Int)) := by
    unfold tailT
    rw [hu, hr]
    simp only [Int.toNat_natCast]
    exact rtimes_eq ⟨h1, by rw [List.length_map], by rw [extract_bytes_drop hb]; exact List.prefix_append _ _⟩
  refine ⟨hu, hr, ht, ?_⟩
  unfold tailV
  rw [ht, hu, hr]
  simp only
  refine rvalues_eq ⟨h2, by rw [List.length_map], ?_⟩
  rw [← List.append_assoc] at hb
  have := extract_bytes_drop hb
  rw [List.length_append] at this
  rw [show (((varL l.length).length : Int) + ((timesL (l.map (·.1))).length : Int)).toNat = (varL l.length).length + (timesL (l.map (·.1))).length by omega, this]
  exact List.prefix_refl _
theorem zip_maps : ∀ (l : List Pt), (l.map (·.1)).zip (l.map (·.2)) = l
  | [] => rfl
  | (a, b) :: l => by simp only [List.map_cons, List.zip_cons_cons, zip_maps l]
theorem blockI_of {s : ByteArray} {l : List Pt} (h : BlockAt s l) : blockI s = (l, true) := by
  obtain ⟨hu, hr, ht, hv⟩ := block_parts h
  have hlen : 0 < l.length := List.length_pos_iff.2 h.2.1
  have := varL_pos l.length
  unfold blockI rblockI
  rw [ht, hv, hu, hr]
  simp only [List.length_map, zip_maps]
  rw [if_neg (by omega), if_neg (by omega), if_pos h.2.2.1.symm]
theorem blockSp_of {s : ByteArray} {l : List Pt} (h : BlockAt s l) : blockSp s = (l, true) := by
  obtain ⟨hu, hr, ht, hv⟩ := block_parts h
  have hlen : 0 < l.length := List.length_pos_iff.2 h.2.1
  have h1 := varL_pos l.length
  have h2 := encL_pos (tNum (l.map (·.1))) (n := (l.map (·.1)).length) (by rw [List.length_map]; omega)
  have h3 := encL_pos (vNum (l.map (·.2))) (n := (l.map (·.2)).length) (by rw [List.length_map]; omega)
  have h4 := congrArg List.length (blockB_bytes h.1 h.2.1)
  simp only [List.length_append, bytes_length] at h4
  unfold blockSp
  rw [ht, hv, hu, hr]
  simp only [zip_maps]
  unfold timesL valuesL at *
  rw [if_neg (by omega), if_neg (by omega), if_neg (by omega)]
theorem blockI_none {s : ByteArray} (h : ∀ l, ¬BlockAt s l) : blockI s = ([], false) := by
  unfold blockI rblockI
  split
  · rfl
  · rename_i hc
    split
    · rfl
    · split
      · rename_i hb
        exfalso
        have hne : s ≠ ⟨#[]⟩ := by
          rintro rfl
          apply hc; left
          intro h0
          rcases unf_cases ⟨#[]⟩ with ⟨_, _, h1⟩ | ⟨b, _, _, _, h3, _⟩
          · omega
          · have e : (⟨#[]⟩ : ByteArray).size = 0 := rfl
            omega
        by_cases hp : ptsOk ((tailT s).1.zip (tailV s).1) ∧ (tailT s).1.zip (tailV s).1 ≠ []
        · exact h _ ⟨hp.1, hp.2, hb.symm, hne⟩
        · unfold blockS at hb
          rw [if_neg hp] at hb
          exact hne hb.symm
      · rfl
theorem blockSp_none {s : ByteArray} (h : ∀ l, ¬BlockAt s l) : blockSp s = ([], false) := by
  unfold blockSp
  split
  · rfl
  · rename_i hc
    split
    · rfl
    · rename_i hc2
      split
      · rfl
      · rename_i hc3
        exfalso
        simp only [not_or, ne_eq, Decidable.not_not] at hc hc3
        obtain ⟨c1, c2⟩ := hc
        obtain ⟨c3, c4⟩ := hc3
        rcases unf_cases s with ⟨h1, _, _⟩ | ⟨b, hu, b1, b2, b3, b4⟩
        · apply c1; rw [h1]; rfl
        · simp only [hu] at c1 c2 c4
          have hs : s = frameS b := by
            rw [← b4]
            apply str_inj
            rw [bytes_extract, List.drop_zero, List.take_of_length_le (by rw [bytes_length]; omega)]
          have ht : (tailT s) = rtimes (b.extract (rv b).2.toNat b.size) (rv b).1 := by unfold tailT; rw [hu]
          have hv : (tailV s) = rvalues (b.extract ((rv b).2 + (tailT s).2).toNat b.size) (rv b).1 := by unfold tailV; rw [hu]
          rcases rtimes_cases (b.extract (rv b).2.toNat b.size) (rv b).1 with ⟨t, t1, t2⟩ | ⟨_, t2⟩
          · rw [t2] at ht
            rcases rvalues_cases (b.extract ((rv b).2 + (tailT s).2).toNat b.size) (rv b).1 with ⟨v, v1, v2⟩ | ⟨_, v2⟩
            · rw [v2] at hv
              obtain ⟨n, k, hr, n1, n2, n3, n4⟩ : ∃ n k : Nat, rv b = ((n : Int), (k : Int)) ∧ 0 < k ∧ k ≤ (bytes b).length ∧ (bytes b).take k = varL n ∧ n ≤ 562949953421311 := by
                unfold rv at c1 ⊢
                split at c1
                · rename_i n k hr
                  obtain ⟨q1, q2, q3, q4⟩ := rvO_some (isB_bytes b) hr
                  exact ⟨n, k, rfl, q1, q2, q3, q4⟩
                · exact absurd rfl c1
              simp only [hr, Int.toNat_natCast, ht] at t1 v1 c4
              simp only [hv] at c4
              obtain ⟨t3, t4, t5⟩ := t1
              obtain ⟨v3, v4, v5⟩ := v1
              have ez : t.length = v.length := by omega
              have m1 : (t.zip v).map (·.1) = t := List.map_fst_zip (by omega)
              have m2 : (t.zip v).map (·.2) = v := List.map_snd_zip (by omega)
              have m3 : (t.zip v).length = t.length := by rw [List.length_zip]; omega
              have hpo : ptsOk (t.zip v) := by
                unfold ptsOk
                rw [m1, m2, m3]
                exact ⟨t3.1, by rw [ez]; exact v3.1, t3.2.2⟩
              have hnn : t.zip v ≠ [] := by
                intro e
                rw [e] at m3
                have := t3.2.1
                simp at m3
                omega
              have hbb : blockB (t.zip v) = b := by
                apply str_inj
                rw [blockB_bytes hpo hnn, m1, m2, m3, show t.length = n by omega, ← n3]
                rw [bytes_extract, List.take_of_length_le (by rw [bytes_length]; omega), List.prefix_iff_eq_take] at t5 v5
                rw [show ((k : Int) + ((timesL t).length : Int)).toNat = k + (timesL t).length by omega] at v5
                have hl1 : ((bytes b).drop (k + (timesL t).length)).length = (valuesL v).length := by rw [List.length_drop, bytes_length]; omega
                rw [List.take_of_length_le (by omega)] at v5
                rw [v5]
                conv => lhs; rhs; lhs; rw [t5]
                rw [← List.drop_drop, List.take_append_drop, List.take_append_drop]
              refine h _ ⟨hpo, hnn, ?_, ?_⟩
              · unfold blockS
                rw [if_pos ⟨hpo, hnn⟩, hbb]; exact hs
              · intro e
                rw [e] at b3
                have e2 : (⟨#[]⟩ : ByteArray).size = 0 := rfl
                omega
            · rw [v2] at hv
              apply c3; rw [hv]
          · rw [t2] at ht
            apply hc2; rw [ht]
theorem BlockAt.uniq {s : ByteArray} {l l' : List Pt} (h : BlockAt s l) (h' : BlockAt s l') : l = l' := by
  have h1 := blockI_of h
  rw [blockI_of h'] at h1
  simp only [Prod.mk.injEq, and_true] at h1
  exact h1.symm
open Classical in
noncomputable def rblock (s : ByteArray) : List Pt × Bool := if h : ∃ l, BlockAt s l then (Classical.choose h, true) else ([], false)
theorem rblock_cases (s : ByteArray) : (∃ l, BlockAt s l ∧ rblock s = (l, true)) ∨ ((∀ l, ¬BlockAt s l) ∧ rblock s = ([], false)) := by
  unfold rblock
  by_cases h : ∃ l, BlockAt s l
  · rw [dif_pos h]; exact .inl ⟨_, Classical.choose_spec h, rfl⟩
  · rw [dif_neg h]; exact .inr ⟨fun l hl => h ⟨l, hl⟩, rfl⟩
theorem blockI_eq (s : ByteArray) : blockI s = rblock s := by
  rcases rblock_cases s with ⟨l, h, e⟩ | ⟨h, e⟩
  · rw [e, blockI_of h]
  · rw [e, blockI_none h]
theorem blockSp_eq (s : ByteArray) : blockSp s = rblock s := by
  rcases rblock_cases s with ⟨l, h, e⟩ | ⟨h, e⟩
  · rw [e, blockSp_of h]
  · rw [e, blockSp_none h]
abbrev k (n : Int) : XO := .c ⟨.one, [.int .i64 n]⟩
abbrev kb (b : Bool) : XO := .c ⟨.one, [.bool b]⟩
abbrev v (t : Nat) : Bool × XO := (false, .s t)
abbrev kv (n : Int) : Bool × XO := (false, k n)
abbrev o (d : Nat) (x : XOp) (r : XL) : XL := .op ⟨some d, none, x, []⟩ r
abbrev on (x : XOp) (r : XL) : XL := .op ⟨none, none, x, []⟩ r
abbrev og (t d : Nat) (x : XOp) (r : XL) : XL := .op ⟨some d, some (t, true), x, []⟩ r
abbrev oh (t d : Nat) (x : XOp) (r : XL) : XL := .op ⟨some d, some (t, false), x, []⟩ r
abbrev Mv (s : Nat) : XOp := .mv (.s s)
abbrev As (s : Nat) : XOp := .asg (.s s) false
abbrev Ac (c : XO) : XOp := .asg c false
abbrev Ld (s : Nat) : XOp := .load false 1 (.s s)
abbrev La (n s : Nat) : XOp := .load true n (.s s)
abbrev Fa (n s : Nat) : XOp := .fad n (.s s)
abbrev Fl (n s : Nat) : XOp := .fld false n 1 (.s s)
abbrev Bi (b : BinOp) (x y : Nat) : XOp := .bin b (.s x) (.s y)
abbrev Bk (b : BinOp) (x : Nat) (y : Int) : XOp := .bin b (.s x) (k y)
abbrev Ca (f : Nat) (l : List (Bool × XO)) : XOp := .call f l []
abbrev Ls (s : Nat) : XOp := .len true (.s s)
abbrev Ln (s : Nat) : XOp := .len false (.s s)
abbrev No (s : Nat) : XOp := .un .not (.s s)
abbrev Ia (n x i : Nat) : XOp := .iad n (.s x) (.s i)
abbrev Ix (x i : Nat) : XOp := .idx (.s x) (.s i)
abbrev Ex (i x : Nat) : XOp := .ext i (.s x)
abbrev Bx (x : Nat) : XOp := .box (.s x) false
abbrev So (n p x : Nat) : XOp := .store n (.s p) (.s x) false
abbrev mv (d s : Nat) (r : XL) : XL := o d (Mv s) r
abbrev sg (d s : Nat) (r : XL) : XL := o d (As s) r
abbrev ac (d : Nat) (c : XO) (r : XL) : XL := o d (Ac c) r
abbrev ld (d s : Nat) (r : XL) : XL := o d (Ld s) r
abbrev la (d n s : Nat) (r : XL) : XL := o d (La n s) r
abbrev fa (d n s : Nat) (r : XL) : XL := o d (Fa n s) r
abbrev bi (d : Nat) (b : BinOp) (x y : Nat) (r : XL) : XL := o d (Bi b x y) r
abbrev bk (d : Nat) (b : BinOp) (x : Nat) (y : Int) (r : XL) : XL := o d (Bk b x y) r
abbrev ca (d f : Nat) (l : List (Bool × XO)) (r : XL) : XL := o d (Ca f l) r
abbrev sa (t : Nat) (b : XL) (ks : List Nat) (d x : Nat) (r : XL) : XL := .sc t true b ks d none (.s t) (.s x) [] r
abbrev sb (t : Nat) (b : XL) (ks : List Nat) (d x : Nat) (r : XL) : XL := .sc t false b ks d none (.s t) (.s x) [] r
abbrev sag (g t : Nat) (b : XL) (ks : List Nat) (d x : Nat) (r : XL) : XL := .sc t true b ks d (some (g, true)) (.s t) (.s x) [] r
abbrev sbg (g t : Nat) (b : XL) (ks : List Nat) (d x : Nat) (r : XL) : XL := .sc t false b ks d (some (g, true)) (.s t) (.s x) [] r
abbrev sah (g t : Nat) (b : XL) (ks : List Nat) (d x : Nat) (r : XL) : XL := .sc t true b ks d (some (g, false)) (.s t) (.s x) [] r
abbrev sbh (g t : Nat) (b : XL) (ks : List Nat) (d x : Nat) (r : XL) : XL := .sc t false b ks d (some (g, false)) (.s t) (.s x) [] r
abbrev z : XL := .nil
abbrev O (l : List Nat) (r : XL) : XCode := .ops l r
abbrev Sq (a b : XCode) : XCode := .seq a b
abbrev If (t : Nat) (a b : XCode) : XCode := .cond (.s t) a b
abbrev dv (d : Nat) (x : XOp) (l m : List Nat) : XD := ⟨⟨some d, none, x, []⟩, l, m, [], none⟩
abbrev dk (d : Nat) (x : XOp) (kl l m : List Nat) : XD := ⟨⟨some d, none, x, kl⟩, l, m, [], none⟩
abbrev dn (d : Nat) (x : XOp) (l m n : List Nat) : XD := ⟨⟨some d, none, x, []⟩, l, m, n, none⟩
abbrev dg (t : Nat) (w : Bool) (d : Nat) (x : XOp) (l m : List Nat) : XD := ⟨⟨some d, some (t, w), x, []⟩, l, m, [], none⟩
abbrev de (k d : Nat) (x : XOp) (l m n : List Nat) : XD := ⟨⟨some d, none, x, []⟩, l, m, n, some k⟩
abbrev An (v t : List XD) : XCode := .any [] v [] [] [] t
abbrev Kp (a b : List Nat) (x : XCode) : XCode := .keep a b x
abbrev ij (n : Int) : Cell := .int .i64 n
abbrev bj (b : Bool) : Cell := .bool b
abbrev sj : Cell := .str ⟨#[]⟩
abbrev oj (n : Nat) : Cell := .own n []
end Go.Eng
