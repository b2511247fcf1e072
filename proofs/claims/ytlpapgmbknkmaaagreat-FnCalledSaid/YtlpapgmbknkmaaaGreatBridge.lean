/-
  From a contract to the row of a law, for every program; no condition.
-/
import Derived.Carry
import Derived.ProofKit
import Derived.Test.YtlpapgmbknkmaaaGreatEngC
set_option linter.unusedSimpArgs false
set_option linter.unusedVariables false
set_option maxRecDepth 100000
set_option maxHeartbeats 2000000
namespace Go.Eng
open Go Go.RowKit Go.ChangeShapes Go.WideShapes
inductive TyD where
  | int (k : IntKind)
  | bool
  | str
  | slice (sz : Nat) (e : List TyD)
def flatFs (g : TypeId → Option (List TyD)) (sz : TypeId → Nat) : List Field → Nat → Option (List TyD)
  | [], _ => some []
  | f :: fs, off => if f.offset = off then (match g f.type with
    | some l => if l.length = sz f.type then (flatFs g sz fs (off + l.length)).map (l ++ ·) else none
    | none => none) else none
def flatTy (P : Program) : Nat → TypeId → Option (List TyD)
  | 0, _ => none
  | n + 1, t => match P.underlying t with
    | some .bool => some [.bool]
    | some (.int k) => some [.int k]
    | some .string => some [.str]
    | some (.slice e) => match flatTy P n e with
      | some l => if l.length = P.cellsOf e ∧ 0 < l.length then some [.slice l.length l] else none
      | none => none
    | some (.struct fs) => match flatFs (flatTy P n) P.cellsOf fs.toList 0 with
      | some l => if l.length = P.cellsOf t then some l else none
      | none => none
    | _ => none
mutual
def Fit (w : World) : TyD → Value → Prop
  | .int k, v => ∃ n, v = .int k n ∧ (Lit.int k n).wf = true
  | .bool, v => ∃ b, v = .bool b
  | .str, v => ∃ s, v = .string s ∧ s.size ≤ maxLen
  | .slice sz e, v => e.length = sz ∧ ∃ a len cap, v = .slice a len cap ∧ len ≤ cap ∧ cap ≤ maxLen ∧ (cap = 0 ∨ ∃ ad arr el fz, a = some ad ∧ ad.spot = none ∧ w.heap[ad.block]? = some (.cells arr el fz) ∧ ∀ i, i < len → FitL w e arr (ad.off + i * sz))
def FitL (w : World) : List TyD → Array Value → Nat → Prop
  | [], _, _ => True
  | t :: ts, arr, o => (∃ v, arr[o]? = some v ∧ Fit w t v) ∧ FitL w ts arr (o + 1)
end
theorem FitL_of {w : World} {arr : Array Value} : ∀ {tys : List TyD} {o : Nat}, (∀ i ty, tys[i]? = some ty → ∃ v, arr[o + i]? = some v ∧ Fit w ty v) → FitL w tys arr o
  | [], _, _ => trivial
  | t :: ts, o, h => by
    refine ⟨by have := h 0 t rfl; simpa using this, FitL_of fun i ty hi => ?_⟩
    have := h (i + 1) ty (by simpa using hi)
    rwa [show o + 1 + i = o + (i + 1) by omega]
section
variable {H : Type} {enc : TypeId × Value → H} {P : Program} {w : World} {held : Bool}
def FitsCs (w : World) (tys : List TyD) (cs : List Value) : Prop := cs.length = tys.length ∧ ∀ (i : Nat) (ty : TyD) (v : Value), tys[i]? = some ty → cs[i]? = some v → Fit w ty v
theorem flatFs_fit {g : TypeId → Option (List TyD)} {sz : TypeId → Nat} {cs : List Value} : ∀ (fs : List Field) (off : Nat) (tys : List TyD), flatFs g sz fs off = some tys → off + tys.length ≤ cs.length →
    (∀ f ∈ fs, ∀ l, g f.type = some l → FitsCs w l ((cs.drop f.offset).take (sz f.type))) → FitsCs w tys ((cs.drop off).take tys.length)
  | [], off, tys, h, _, _ => by
    simp only [flatFs, Option.some.injEq] at h
    subst h
    exact ⟨by simp, fun i ty v hi => by simp at hi⟩
  | f :: fs, off, tys, h, hl, hf => by
    simp only [flatFs] at h
    split at h
    · rename_i ho
      split at h
      · rename_i l hg
        split at h
        · rename_i hsz
          simp only [Option.map_eq_some_iff] at h
          obtain ⟨l2, h2, rfl⟩ := h
          rw [List.length_append] at hl
          have ih := flatFs_fit fs (off + l.length) l2 h2 (by omega) (fun f' hf' => hf f' (List.mem_cons_of_mem _ hf'))
          obtain ⟨a1, a2⟩ := hf f (List.mem_cons_self ..) l hg
          rw [ho, ← hsz] at a1 a2
          refine ⟨by simp; omega, fun i ty v hi hv => ?_⟩
          rw [List.getElem?_take, List.getElem?_drop] at hv
          by_cases hil : i < l.length
          · refine a2 i ty v (by rwa [List.getElem?_append_left hil] at hi) ?_
            rw [List.getElem?_take, List.getElem?_drop, if_pos hil]
            split at hv
            · exact hv
            · simp at hv
          · refine ih.2 (i - l.length) ty v (by rwa [List.getElem?_append_right (by omega)] at hi) ?_
            rw [List.getElem?_take, List.getElem?_drop]
            split at hv
            · rename_i hlt
              rw [List.length_append] at hlt
              rw [if_pos (by omega), show off + l.length + (i - l.length) = off + i by omega]
              exact hv
            · simp at hv
        · simp at h
      · simp at h
    · simp at h
theorem fit_of_trod : ∀ (n : Nat) (t : TypeId) (tys : List TyD), flatTy P n t = some tys → ∀ (fuel : Nat) (cs : List Value) (x : DataW H × List MemPlace),
    DataW.trod enc P w 0 (fun _ => true) held fuel t cs = some x → FitsCs w tys cs
  | 0, _, _, h, _, _, _, _ => by simp [flatTy] at h
  | n + 1, t, tys, h, fuel, cs, x, hx => by
    unfold flatTy at h
    split at h
    · rename_i ht
      simp only [Option.some.injEq] at h; subst h
      obtain ⟨b, rfl, _⟩ := DataW.trod_bool ht hx
      refine ⟨rfl, fun i ty v hi hv => ?_⟩
      rcases i with _ | i <;> simp at hi hv
      subst hi; subst hv; exact ⟨b, rfl⟩
    · rename_i k ht
      simp only [Option.some.injEq] at h; subst h
      obtain ⟨m, rfl, _, hw⟩ := DataW.trod_int ht hx
      refine ⟨rfl, fun i ty v hi hv => ?_⟩
      rcases i with _ | i <;> simp at hi hv
      subst hi; subst hv; exact ⟨m, rfl, hw⟩
    · rename_i ht
      simp only [Option.some.injEq] at h; subst h
      obtain ⟨s, rfl, _, hw⟩ := DataW.trod_string ht hx
      refine ⟨rfl, fun i ty v hi hv => ?_⟩
      rcases i with _ | i <;> simp at hi hv
      subst hi; subst hv; exact ⟨s, rfl, hw⟩
    · rename_i e ht
      split at h
      · rename_i l hl
        split at h
        · rename_i hc
          simp only [Option.some.injEq] at h; subst h
          rcases DataW.trod_slice ht hx with ⟨rfl, _⟩ | ⟨a, len, cap, elems, rest, m, _, rfl, _, _, hlc, hcm, hel, hE, hR, _⟩
          · refine ⟨rfl, fun i ty v hi hv => ?_⟩
            rcases i with _ | i <;> simp at hi hv
            subst hi; subst hv; exact ⟨rfl, none, 0, 0, rfl, Nat.le_refl _, Nat.zero_le _, .inl rfl⟩
          · refine ⟨rfl, fun i ty v hi hv => ?_⟩
            rcases i with _ | i <;> simp at hi hv
            subst hi; subst hv
            refine ⟨rfl, some a, len, cap, rfl, hlc, hcm, ?_⟩
            by_cases h0 : cap = 0
            · exact .inl h0
            right
            have hfirst : ∃ v, w.cell? a = some v := by
              have key : ∃ cs', w.cells? 0 (a.add 0) (P.cellsOf e) = some cs' := by
                by_cases hlen : 0 < len
                · have h1 := hE 0 hlen
                  rw [List.getElem?_eq_getElem (by omega)] at h1
                  obtain ⟨cs', h2, _⟩ := Option.bind_eq_some_iff.1 h1
                  exact ⟨cs', by simpa using h2⟩
                · have h1 := (hR rfl).2 0 (by omega)
                  have h3 := (hR rfl).1
                  rw [List.getElem?_eq_getElem (by omega)] at h1
                  obtain ⟨cs', h2, _⟩ := Option.bind_eq_some_iff.1 h1
                  have e0 : len = 0 := by omega
                  subst e0
                  exact ⟨cs', by simpa using h2⟩
              obtain ⟨cs', h2⟩ := key
              obtain ⟨_, h3, h4⟩ := World.cells?_some h2
              have h5 := h4 0 (by omega)
              rw [List.getElem?_eq_getElem (by omega)] at h5
              exact ⟨_, by simpa [Addr.add] using h5⟩
            obtain ⟨v0, hv0⟩ := hfirst
            unfold World.cell? at hv0
            split at hv0
            · rename_i arr el fz hblk
              split at hv0
              · simp at hv0
              · rename_i hsp
                have hsp : a.spot = none := by simpa using hsp
                refine ⟨a, arr, el, fz, rfl, hsp, hblk, fun i hi => FitL_of fun j ty hj => ?_⟩
                have h1 := hE i hi
                rw [List.getElem?_eq_getElem (by omega)] at h1
                obtain ⟨cs', h2, h3⟩ := Option.bind_eq_some_iff.1 h1
                obtain ⟨_, h4, h5⟩ := World.cells?_some h2
                obtain ⟨q1, q2⟩ := fit_of_trod n e l hl m cs' _ h3
                have hjl : j < l.length := (List.getElem?_eq_some_iff.1 hj).1
                have h6 := h5 j (by omega)
                rw [List.getElem?_eq_getElem (by omega)] at h6
                refine ⟨cs'[j], ?_, q2 j ty _ hj (List.getElem?_eq_getElem (by omega))⟩
                unfold World.cell? at h6
                have eb : ((a.add (i * P.cellsOf e)).add j).block = a.block := by
                  simp only [Addr.add]; split <;> split <;> rfl
                have eo : ((a.add (i * P.cellsOf e)).add j).off = a.off + i * l.length + j := by
                  rw [hc.1]
                  simp only [Addr.add]
                  split <;> split <;> simp_all
                rw [eb, hblk] at h6
                simp only at h6
                split at h6
                · simp at h6
                · rw [eo] at h6; exact h6
            · simp at hv0
        · simp at h
      · simp at h
    · rename_i fs ht
      split at h
      · rename_i l hl
        split at h
        · rename_i hc
          simp only [Option.some.injEq] at h; subst h
          obtain ⟨xs, m, _, _, hlen, hxl, hf⟩ := DataW.trod_struct ht hx
          have := flatFs_fit (w := w) (cs := cs) fs.toList 0 l hl (by omega) (fun f hfm l' hg => by
            obtain ⟨i, hi, rfl⟩ := List.getElem_of_mem hfm
            have hi' : i < fs.size := by simpa using hi
            have h1 := hf i _ (show fs[i]? = some (fs.toList[i]) by rw [Array.getElem?_eq_getElem hi']; rfl)
            rw [List.getElem?_eq_getElem (by omega)] at h1
            exact fit_of_trod n _ l' hg m _ _ h1)
          rw [List.drop_zero, List.take_of_length_le (by omega)] at this
          exact this
        · simp at h
      · simp at h
    · simp at h
end
mutual
def DT : TyD → D → Prop
  | .int k, d => ∃ n, d = .int k n ∧ (Lit.int k n).wf = true
  | .bool, d => ∃ b, d = .bool b
  | .str, d => ∃ s, d = .str s ∧ s.size ≤ maxLen
  | .slice sz e, d => ∃ rows, d = .lst sz rows ∧ rows.length ≤ maxLen ∧ ∀ r ∈ rows, DTL e r
def DTL : List TyD → List D → Prop
  | [], ds => ds = []
  | t :: ts, ds => ∃ d r, ds = d :: r ∧ DT t d ∧ DTL ts r
end
theorem DTL_len : ∀ {tys : List TyD} {ds : List D}, DTL tys ds → ds.length = tys.length
  | [], ds, h => by simp only [DTL] at h; subst h; rfl
  | t :: ts, ds, h => by
    obtain ⟨d, r, rfl, _, h2⟩ := h
    simp [DTL_len h2]
theorem choose_list {α : Type} {p : Nat → α → Prop} : ∀ (n : Nat), (∀ i, i < n → ∃ x, p i x) → ∃ l : List α, l.length = n ∧ ∀ i x, l[i]? = some x → p i x
  | 0, _ => ⟨[], rfl, fun i x h => by simp at h⟩
  | n + 1, h => by
    obtain ⟨l, hl, hp⟩ := choose_list n fun i hi => h i (by omega)
    obtain ⟨x, hx⟩ := h n (by omega)
    refine ⟨l ++ [x], by simp [hl], fun i y hy => ?_⟩
    by_cases hi : i < l.length
    · rw [List.getElem?_append_left hi] at hy; exact hp i y hy
    · rw [List.getElem?_append_right (by omega)] at hy
      have : i = n := by
        have := (List.getElem?_eq_some_iff.1 hy).1
        simp at this; omega
      subst this
      simp [hl] at hy; subst hy; exact hx
abbrev fr : Nat → Lab := fun _ => .frame
theorem rdRows_of {w : World} {Q : BP} {arr : Array Value} {o sz : Nat} : ∀ (rows : List (List D)) (j : Nat), (∀ r ∈ rows, r.length = sz) → (∀ i r, rows[i]? = some r → rdCs w r Q arr (o + j + i * sz) 0) →
    (∀ (r : List D) (a b : Nat), rdCs w r Q arr (o + a) b → rdCs w r Q arr o (a + b)) → rdRows w rows Q arr o j
  | [], _, _, _, _ => trivial
  | r :: rs, j, hl, h, hsh => by
    refine ⟨?_, rdRows_of rs (j + r.length) (fun r' hr' => hl r' (List.mem_cons_of_mem _ hr')) (fun i r' hi => ?_) hsh⟩
    · have h0 := h 0 r rfl
      rw [Nat.zero_mul, Nat.add_zero] at h0
      have := hsh r j 0 h0
      simpa using this
    · have h1 := h (i + 1) r' (by simpa using hi)
      rw [hl r (List.mem_cons_self ..)]
      rwa [show o + (j + sz) + i * sz = o + j + (i + 1) * sz by rw [Nat.add_mul]; omega]
mutual
theorem rd_of_fit {w : World} : ∀ (ty : TyD) (v : Value) (Q : BP), (∀ q ad m arr fz, Q q ad m arr fz) → Fit w ty v → ∃ d, DT ty d ∧ rd w d Q v
  | .int k, v, _, _, h => by
    obtain ⟨n, rfl, hw⟩ := h
    exact ⟨.int k n, ⟨n, rfl, hw⟩, rfl⟩
  | .bool, v, _, _, h => by
    obtain ⟨b, rfl⟩ := h
    exact ⟨.bool b, ⟨b, rfl⟩, rfl⟩
  | .str, v, _, _, h => by
    obtain ⟨s, rfl, hs⟩ := h
    exact ⟨.str s, ⟨s, rfl, hs⟩, rfl⟩
  | .slice sz e, v, Q, hQ, h => by
    obtain ⟨hsz, a, len, cap, rfl, hlc, hcm, h⟩ := h
    rcases h with h0 | ⟨ad, arr, el, fz, rfl, hsp, hb, hf⟩
    · have : len = 0 := by omega
      subst this
      exact ⟨.lst sz [], ⟨[], rfl, Nat.zero_le _, by simp⟩, a, cap, rfl, hlc, by simp, .inl h0⟩
    · obtain ⟨rows, hrl, hrows⟩ := choose_list (p := fun i r => DTL e r ∧ ∀ Q : BP, (∀ q ad m arr fz, Q q ad m arr fz) → rdCs w r Q arr (ad.off + i * sz) 0) len (fun i hi => rdCs_of_fit e arr _ (hf i hi))
      have hlen : ∀ r ∈ rows, r.length = sz := fun r hr => by
        obtain ⟨i, hi, rfl⟩ := List.getElem_of_mem hr
        have := (hrows i _ (List.getElem?_eq_getElem hi)).1
        rw [DTL_len this, hsz]
      refine ⟨.lst sz rows, ⟨rows, rfl, by omega, fun r hr => ?_⟩, some ad, cap, by rw [hrl], by omega, hlen, .inr ⟨ad, arr, el, fz, rfl, hsp, hb, hQ _ _ _ _ _, ?_⟩⟩
      · obtain ⟨i, hi, rfl⟩ := List.getElem_of_mem hr
        exact (hrows i _ (List.getElem?_eq_getElem hi)).1
      · refine rdRows_of rows 0 hlen (fun i r hi => ?_) (fun r a b hh => ?_)
        · rw [Nat.add_zero]; exact (hrows i r hi).2 Q hQ
        · rw [rdCs_iff] at hh ⊢
          intro i d hd
          obtain ⟨v, hv, hr⟩ := hh i d hd
          refine ⟨v, by rw [← hv]; congr 1; omega, ?_⟩
          exact rd_carry d _ _ v (fun q ad m arr elem fz hx _ => ⟨hx, hQ _ _ _ _ _⟩) hr
theorem rdCs_of_fit {w : World} : ∀ (tys : List TyD) (arr : Array Value) (o : Nat), FitL w tys arr o → ∃ r, DTL tys r ∧ ∀ Q : BP, (∀ q ad m arr fz, Q q ad m arr fz) → rdCs w r Q arr o 0
  | [], arr, o, _ => ⟨[], rfl, fun _ _ => trivial⟩
  | t :: ts, arr, o, h => by
    obtain ⟨⟨v, hv, hf⟩, h2⟩ := h
    obtain ⟨d, hd, hr⟩ := rd_of_fit t v (fun _ _ _ _ _ => True) (fun _ _ _ _ _ => trivial) hf
    obtain ⟨r, hr1, hr2⟩ := rdCs_of_fit ts arr (o + 1) h2
    refine ⟨d :: r, ⟨d, r, rfl, hd, hr1⟩, fun Q hQ => ?_⟩
    refine ⟨⟨v, by simpa using hv, rd_carry d _ _ v (fun q ad m arr elem fz hx _ => ⟨hx, hQ _ _ _ _ _⟩) hr⟩, ?_⟩
    have := hr2 (fun q => Q q) hQ
    rw [rdCs_iff] at this ⊢
    intro i d' hd'
    obtain ⟨v', hv', hr'⟩ := this i d' hd'
    refine ⟨v', by rw [← hv']; congr 1; omega, ?_⟩
    exact rd_carry d' _ _ v' (fun q ad m arr elem fz hx _ => ⟨hx, hQ _ _ _ _ _⟩) hr'
end
section
variable {H : Type} {enc : TypeId × Value → H} {P : Program} {W : World} {held : Bool}
theorem CR_of_rd {m : Mc} {r : Root} {v : Value} {d : D} (hm : m.w = W) (h : rd W d (fun _ _ _ _ _ => True) v) : CR fr m r v d.roCell := by
  cases d with
  | int k n => exact h
  | bool b => exact h
  | str s => exact h
  | gone => trivial
  | lst sz rows => subst hm; exact rd_carry _ _ _ v (fun q ad m arr elem fz hx _ => ⟨hx, rfl⟩) h
theorem plain_ro (ds : List D) (tys : List TyD) (h : DTL tys ds) : ∀ c ∈ ds.map D.roCell, (match c with
    | .int _ _ => true
    | .bool _ => true
    | .str _ => true
    | .ro _ _ => true
    | _ => false) = true := by
  induction tys generalizing ds with
  | nil => simp only [DTL] at h; subst h; intro c hc; simp at hc
  | cons t ts ih =>
    obtain ⟨d, r, rfl, h1, h2⟩ := h
    intro c hc
    simp only [List.map_cons, List.mem_cons] at hc
    rcases hc with rfl | hc
    · cases t with
      | int k => obtain ⟨n, rfl, _⟩ := h1; rfl
      | bool => obtain ⟨b, rfl⟩ := h1; rfl
      | str => obtain ⟨s, rfl, _⟩ := h1; rfl
      | slice sz e => obtain ⟨rows, rfl, _⟩ := h1; rfl
    · exact ih r h2 c hc
theorem cells_given {tys : List TyD} {cs : List Value} (h : FitsCs W tys cs) : ∃ ds, DTL tys ds ∧ ∀ (m : Mc) (r : Nat → Root), m.w = W → CRs fr m r 0 cs (ds.map D.roCell) := by
  have hf : FitL W tys cs.toArray 0 := FitL_of fun i ty hi => by
    have hlt : i < cs.length := by rw [h.1]; exact (List.getElem?_eq_some_iff.1 hi).1
    refine ⟨cs[i], ?_, h.2 i ty _ hi (List.getElem?_eq_getElem hlt)⟩
    simp [hlt]
  obtain ⟨ds, hd, hr⟩ := rdCs_of_fit tys cs.toArray 0 hf
  have hr := hr (fun _ _ _ _ _ => True) (fun _ _ _ _ _ => trivial)
  refine ⟨ds, hd, fun m r hm => ?_⟩
  rw [CRs_iff]
  refine ⟨by rw [List.length_map, DTL_len hd, h.1], fun i v c hv hc => ?_⟩
  rw [List.getElem?_map] at hc
  obtain ⟨d, hd', rfl⟩ := Option.map_eq_some_iff.1 hc
  rw [rdCs_iff] at hr
  obtain ⟨v', hv', hrd⟩ := hr i d hd'
  have : v' = v := by
    simp only [Nat.zero_add, List.getElem?_toArray] at hv'
    rw [hv] at hv'
    exact (Option.some.inj hv').symm
  subst this
  exact CR_of_rd hm hrd
theorem given_struct {t : TypeId} {fs : Array Field} {n : Nat} {tys : List TyD} {v : Value} {d : DataW H} {ps : List MemPlace} {b : Nat} (ht : P.underlying t = some (.struct fs)) (hf : flatTy P n t = some tys)
    (hv : Value.okWide P W .any b t v) (h : DataW.Trod enc P W 0 (fun _ => true) held t v d ps) : ∃ ds, DTL tys ds ∧ Given W v ⟨.agg, ds.map D.roCell⟩ ∧ (⟨.agg, ds.map D.roCell⟩ : SV).plain = true := by
  obtain ⟨cs, rfl, _⟩ := okWide_struct ht hv
  obtain ⟨fuel, hx⟩ := h
  obtain ⟨ds, hd, hc⟩ := cells_given (fit_of_trod n t tys hf fuel _ _ hx)
  refine ⟨ds, hd, ?_, List.all_eq_true.2 (plain_ro ds tys hd)⟩
  unfold Given
  rw [SVR_iff (by simp)]
  exact ⟨⟨cs, rfl⟩, hc _ _ rfl⟩
end
end Go.Eng

namespace Go.Eng
open Go Go.RowKit Go.ChangeShapes Go.WideShapes
section
variable {H : Type} {enc : TypeId × Value → H} {P : Program} {W W' : World}
theorem trodAll_stays (hl : laidOutB P = true) {sp : Nat → Bool} : ∀ (ts : List TypeId) (vs : List Value) (ds : List (DataW H)) (ps : List MemPlace), (∀ t ∈ ts, P.readableRec t = true ∧ t < P.types.size) →
    DataW.TrodAll enc P W 0 (fun _ => true) true ts vs ds ps → (∀ p ∈ ps, W.sameAt W' p) → (∀ p ∈ ps, sp p.block = true) → DataW.TrodAll enc P W' 0 sp true ts vs ds ps
  | [], [], [], ps, _, h, _, _ => h
  | [], _ :: _, _, _, _, h, _, _ => by simp [DataW.TrodAll] at h
  | [], [], _ :: _, _, _, h, _, _ => by simp [DataW.TrodAll] at h
  | _ :: _, [], _, _, _, h, _, _ => by simp [DataW.TrodAll] at h
  | _ :: _, _ :: _, [], _, _, h, _, _ => by simp [DataW.TrodAll] at h
  | t :: ts, v :: vs, d :: ds, ps, ht, h, hs, hsp => by
    obtain ⟨p, q, h1, h2, rfl⟩ := h
    obtain ⟨a, b⟩ := ht t (List.mem_cons_self ..)
    exact ⟨p, q, WideElems.Trod_stays hl a b h1 (fun x hx => hs x (List.mem_append_left _ hx)) (fun x hx => hsp x (List.mem_append_left _ hx)),
      trodAll_stays hl ts vs ds q (fun t ht' => ht t (List.mem_cons_of_mem _ ht')) h2 (fun x hx => hs x (List.mem_append_right _ hx)) (fun x hx => hsp x (List.mem_append_right _ hx)), rfl⟩
theorem post_law {f : Func} {s : ChangeSpec} {apart fresh handsOn again : Bool} {args : Array Value} {ds gs : List (DataW H)} {before : List MemPlace} {tb : TypeId}
    (hl : laidOutB P = true) (hts : ∀ t ∈ f.params.toList, P.readableRec t = true ∧ t < P.types.size) (hvars : s.vars = []) (hres : f.resultTypes = #[tb]) (htb : P.underlying tb = some .bool)
    (hfn : s.fn H (ds ++ gs) = { results := [.lit (.bool true)], args := ds }) (hW : DataW.Whole enc P f.params.toList s.vars apart W args.toList ds gs before) (hb : Below W.heap.size W W') :
    s.post enc P f apart fresh handsOn again W args (.bool true) W' := by
  have hlt := hW.lt
  have hsame : ∀ p ∈ before, W.sameAt W' p := fun p hp => hb.same (hlt p hp)
  have hW0 := hW
  obtain ⟨p, q, hA, hV, rfl, hz, hn⟩ := hW0
  rw [hvars] at hV
  obtain ⟨rfl, rfl⟩ := trodVars_none hV
  simp only [List.append_nil] at hfn hz hn hlt hsame
  have hargs : ∀ sp : Nat → Bool, (∀ x ∈ p, sp x.block = true) → DataW.TrodAll enc P W' 0 sp true f.params.toList args.toList ds p := fun sp hsp =>
    trodAll_stays hl _ _ _ _ hts hA hsame hsp
  refine ⟨ds, [], p ++ [], [], p, [], hW, ?_, ?_, ?_, hb.frame _, fun _ => ⟨ok_one hres rfl (okWide_bool_mk htb true), [.lit (.bool true)] ++ ds, [], p, ?_, fun x hx _ => by simpa using hx⟩⟩
  · rw [List.append_nil, hfn, hres]
    exact trodAll_mk1 (shut_bool htb true)
  · rw [List.append_nil, hfn]
    exact hargs _ fun x hx => by simpa using hlt x hx
  · rw [List.append_nil, hfn, hvars]; rfl
  · refine ⟨p, [], ?_, by rw [hvars]; rfl, by simp, fun b off hp => ?_, fun ha => by simpa using hn ha⟩
    · rw [hres]
      exact ⟨[], p, shut_bool htb true, hargs _ fun _ _ => rfl, rfl⟩
    · rw [hb.frozen (hlt _ hp)]; exact hz b off hp
end
theorem given_str {H : Type} {enc : TypeId × Value → H} {P : Program} {W : World} {held : Bool} {t : TypeId} {n b : Nat} {v : Value} {d : DataW H} {ps : List MemPlace} (ht : P.underlying t = some .string) (hf : flatTy P n t = some [.str])
    (hv : Value.okWide P W .any b t v) (h : DataW.Trod enc P W 0 (fun _ => true) held t v d ps) : ∃ s : ByteArray, s.size ≤ maxLen ∧ Given W v ⟨.one, [.str s]⟩ := by
  obtain ⟨s, rfl⟩ := okWide_string ht hv
  obtain ⟨fuel, hx⟩ := h
  obtain ⟨ds, hd, hc⟩ := cells_given (fit_of_trod n t [.str] hf fuel _ _ hx)
  obtain ⟨_, _, rfl, ⟨s', rfl, hs⟩, rfl⟩ := hd
  refine ⟨s', hs, ?_⟩
  unfold Given
  rw [SVR_iff (by simp)]
  exact ⟨rfl, hc _ _ rfl⟩
theorem given_int {H : Type} {enc : TypeId × Value → H} {P : Program} {W : World} {held : Bool} {t : TypeId} {n b : Nat} {v : Value} {d : DataW H} {ps : List MemPlace} (ht : P.underlying t = some (.int .i64)) (hf : flatTy P n t = some [.int .i64])
    (hv : Value.okWide P W .any b t v) (h : DataW.Trod enc P W 0 (fun _ => true) held t v d ps) : ∃ s : Int, (Lit.int .i64 s).wf = true ∧ Given W v ⟨.one, [.int .i64 s]⟩ := by
  obtain ⟨s, rfl⟩ := okWide_int ht hv
  obtain ⟨fuel, hx⟩ := h
  obtain ⟨ds, hd, hc⟩ := cells_given (fit_of_trod n t [.int .i64] hf fuel _ _ hx)
  obtain ⟨_, _, rfl, ⟨s', rfl, hs⟩, rfl⟩ := hd
  refine ⟨s', hs, ?_⟩
  unfold Given
  rw [SVR_iff (by simp)]
  exact ⟨rfl, hc _ _ rfl⟩
theorem given_slice {H : Type} {enc : TypeId × Value → H} {P : Program} {W : World} {held : Bool} {t : TypeId} {n b k : Nat} {e : TypeId} {ts : List TyD} {v : Value} {d : DataW H} {ps : List MemPlace} (ht : P.underlying t = some (.slice e)) (hf : flatTy P n t = some [.slice k ts])
    (hv : Value.okWide P W .any b t v) (h : DataW.Trod enc P W 0 (fun _ => true) held t v d ps) : ∃ rows : List (List D), rows.length ≤ maxLen ∧ (∀ r ∈ rows, DTL ts r) ∧ Given W v ⟨.one, [.ro k rows]⟩ := by
  obtain ⟨a, l, c, rfl⟩ := okWide_slice ht hv
  obtain ⟨fuel, hx⟩ := h
  obtain ⟨ds, hd, hc⟩ := cells_given (fit_of_trod n t _ hf fuel _ _ hx)
  obtain ⟨_, _, rfl, ⟨rows, rfl, hl, hr⟩, rfl⟩ := hd
  refine ⟨rows, hl, hr, ?_⟩
  unfold Given
  rw [SVR_iff (by simp)]
  exact ⟨rfl, hc _ _ rfl⟩
theorem wf_i64 {n : Int} (h : (Lit.int .i64 n).wf = true) : -9223372036854775808 ≤ n ∧ n ≤ 9223372036854775807 := by
  simp only [Lit.wf, Bool.and_eq_true, decide_eq_true_eq] at h
  have e1 : IntKind.i64.min = -9223372036854775808 := rfl
  have e2 : IntKind.i64.max = 9223372036854775807 := rfl
  rw [e1, e2] at h
  exact h
end Go.Eng
