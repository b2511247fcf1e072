/-
  A logic over pure values for the walk of Go functions: its definitions and their soundness, for every program; no condition.
-/
import Derived.Test.YtlpapgmbknkmaaaGreatEngB
set_option linter.unusedSimpArgs false
set_option linter.unusedVariables false
set_option maxRecDepth 100000
set_option maxHeartbeats 2000000
namespace Go.Eng
open Go
theorem pigeon : ∀ (n : Nat) (l : List Nat), (∀ r, r < n → r ∈ l) → n ≤ l.length
  | 0, _, _ => Nat.zero_le _
  | n + 1, l, h => by
    have h1 := pigeon n (l.erase n) fun r hr => (List.mem_erase_of_ne (by omega)).2 (h r (by omega))
    have h2 := h n (by omega)
    rw [List.length_erase_of_mem h2] at h1
    have h3 := List.length_pos_of_mem h2
    omega
section
variable {P : Program} {ω0 : Nat → Lab} {m0 : Mc} {N : Nat} {ops : Array Oper} {Q : Exit → Act → World → Prop} {all : List XD}
theorem usOk_spec {nv nf n1 : Nat} (h : usOk all nv nf n1 = true) {k : Nat} {x : XD} (hk : nv ≤ k) (hk2 : k < n1) (hx : all[k]? = some x) : x.i.guard = none ∧ x.i.kill = [] ∧ x.ef = none ∧ (k < nf → isQ x.i.op = true) ∧ (nf ≤ k → ∀ j, j < nv → x.cl.contains j = true) := by
  unfold usOk at h
  rw [List.all_eq_true] at h
  have h1 := h k (by simpa using (List.getElem?_eq_some_iff.1 hx).1)
  rw [hx] at h1
  simp only [Bool.or_eq_true, decide_eq_true_eq, Bool.and_eq_true] at h1
  rcases h1 with (h1 | h1) | h1
  · omega
  · obtain ⟨⟨⟨h2, h3⟩, h4⟩, h5⟩ := h1
    refine ⟨by simpa using h2, by simpa using h3, by simpa using h4, fun hlt => by rw [if_pos hlt] at h5; exact h5, fun hge => ?_⟩
    rw [if_neg (by omega), List.all_eq_true] at h5
    exact fun j hj => h5 j (by simpa using hj)
  · omega
theorem us_sound {K : St → Prop} {vs us ts : List XD} {ords : List (List Nat)} (hall : all = vs ++ us ++ ts) (hm : mIs P N ops ops.toList (all.map (·.i)) = true) (hcl : clOk ops.toList all = true) (htl : tailOk all (vs.length + us.length) = true)
    {nf : Nat} (hus : usOk all vs.length nf (vs.length + us.length) = true) (hor : ordsOk vs.length us ords = true) (hQ : ∀ a w st, Sit ω0 m0 N a w st → K st → Q .normal a w) {s0 s2 : St} (h2 : sameS us s0 s2 ords) (hW : WI P (opsL ts) K s2) :
    ∀ (fuel : Nat) (listed : Array Bool) (σ : List Nat) (s : St) (a : Act) (w : World), fuel + vs.length + σ.length = all.length → listed.size = all.length →
      (∀ j, j < all.length → listed.getD j false = (decide (j < vs.length) || (decide (vs.length ≤ j) && σ.contains (j - vs.length)))) → Closed all (fun j => listed.getD j false) → (∃ p, p ∈ ords ∧ p.take σ.length = σ) →
      runS (pick us σ) s0 = some s → Sit ω0 m0 N a w s → wpAny P .any ops Q fuel listed a w := by
  have hsz : ops.size = all.length := by have := mIs_len hm; simpa using this
  have hn1 : vs.length + us.length ≤ all.length := by rw [hall]; simp
  have hgetu : ∀ r, r < us.length → all[vs.length + r]? = us[r]? := fun r hr => by
    rw [hall, List.append_assoc, List.getElem?_append_right (by omega), show vs.length + r - vs.length = r by omega, List.getElem?_append_left hr]
  unfold ordsOk at hor
  simp only [Bool.and_eq_true, List.all_eq_true, decide_eq_true_eq] at hor
  obtain ⟨⟨hp1, hp0⟩, hp2⟩ := hor
  intro fuel
  induction fuel with
  | zero =>
    intro listed σ s a w hf hls hl hc hpre hrun hS
    obtain ⟨p, hp, hpt⟩ := hpre
    have hlen := (hp1 p hp).1.1
    have hsl : σ.length = us.length ∧ us.length + vs.length = all.length := by
      have : σ.length ≤ us.length := by rw [← hpt, List.length_take]; omega
      omega
    have hσp : p = σ := by rw [← hpt, hsl.1, ← hlen, List.take_length]
    subst hσp
    have := sameS_mem h2 hp
    rw [hrun] at this; injection this with this; subst this
    refine tail_sound hm hcl htl hQ 0 (vs.length + us.length) listed s a w (by omega) (Nat.le_refl _) hls (fun j hj => ?_) hS ?_
    · rw [hl j hj]
      by_cases h1 : j < vs.length
      · simp [h1]; omega
      · have h3 := (hp1 p hp).2 (j - vs.length) (by simp; omega)
        simp only [h1, decide_false, Bool.false_or, h3, Bool.and_true]
        simp; omega
    · rw [hall, List.drop_left' (by simp)]; exact hW
  | succ fuel ih =>
    intro listed σ s a w hf hls hl hc hpre hrun hS
    obtain ⟨p, hp, hpt⟩ := hpre
    have hlen := (hp1 p hp).1.1
    have hsle : σ.length ≤ us.length := by rw [← hpt, List.length_take]; omega
    by_cases hfull : σ.length = us.length
    · have hσp : p = σ := by rw [← hpt, hfull, ← hlen, List.take_length]
      subst hσp
      have := sameS_mem h2 hp
      rw [hrun] at this; injection this with this; subst this
      refine tail_sound hm hcl htl hQ (fuel + 1) (vs.length + us.length) listed s a w (by omega) (Nat.le_refl _) hls (fun j hj => ?_) hS ?_
      · rw [hl j hj]
        by_cases h1 : j < vs.length
        · simp [h1]; omega
        · by_cases h4 : j < vs.length + us.length
          · have h3 := (hp1 p hp).2 (j - vs.length) (by simp; omega)
            simp only [h1, decide_false, Bool.false_or, h3, Bool.and_true]
            simp; omega
          · have h5 : p.contains (j - vs.length) = false := by
              cases hb : p.contains (j - vs.length) with
              | false => rfl
              | true =>
                have := (hp1 p hp).1.2 (j - vs.length) (by simpa using hb)
                omega
            rw [h5]; simp; omega
      · rw [hall, List.drop_left' (by simp)]; exact hW
    · have hex : ∃ r, r < us.length ∧ r ∉ σ := by
        apply Classical.byContradiction
        intro hno
        have := pigeon us.length σ fun r hr => by
          apply Classical.byContradiction
          intro h4; exact hno ⟨r, hr, h4⟩
        omega
      have hun : ∀ r, r < us.length → r ∉ σ → listed.getD (vs.length + r) false = false := fun r hr hno => by
        rw [hl _ (by omega)]
        have : σ.contains r = false := by simpa using hno
        simp [show vs.length + r - vs.length = r by omega, hno]
      have hfirst : ∃ i, i < vs.length + us.length ∧ listed.getD i false = false ∧ ∀ j, j < i → listed.getD j false = true := by
        apply Classical.byContradiction
        intro hno
        have hall' : ∀ i, i < vs.length + us.length → listed.getD i false = true := by
          intro i
          induction i using Nat.strongRecOn with
          | _ i ihi =>
            intro hi
            cases hb : listed.getD i false with
            | true => rfl
            | false => exact absurd ⟨i, hi, hb, fun j hj => ihi j hj (by omega)⟩ hno
        obtain ⟨r, hr, hrn⟩ := hex
        have := hun r hr hrn
        rw [hall' _ (by omega)] at this; simp at this
      obtain ⟨i0, hi0, hb0, hbel⟩ := hfirst
      have hr0 : i0 ∈ Region.ready .any ops listed := ready_first hcl (by omega) (by omega) hb0 hbel
      refine ⟨fun h0 => (by rw [h0] at hr0; cases hr0), fun i hi => ?_⟩
      obtain ⟨h0, oi, hoi, _⟩ := mem_ready.1 hi
      have hlt : i < all.length := by rw [← hsz]; exact (Array.getElem?_eq_some_iff.1 hoi).1
      have huni : listed.getD i false = false := by rw [← getD_tf (by omega)]; exact h0
      have hxi : all[i]? = some all[i] := List.getElem?_eq_getElem hlt
      have hcli := ready_cl hcl hc hi hxi
      have hiv : vs.length ≤ i := by
        apply Nat.le_of_not_lt
        intro h4
        rw [hl i hlt] at huni; simp [h4] at huni
      have hin : i < vs.length + us.length := by
        apply Nat.lt_of_not_le
        intro hle
        obtain ⟨r, hr, hrn⟩ := hex
        have := hcli (vs.length + r) ((tailOk_spec htl hle hxi).2 _ (by omega))
        rw [hun r hr hrn] at this; simp at this
      obtain ⟨r, rfl⟩ : ∃ r, i = vs.length + r := ⟨i - vs.length, by omega⟩
      have hru : r < us.length := by omega
      have hrn : r ∉ σ := by
        intro h4
        rw [hl _ hlt] at huni
        simp [h4] at huni
      have hux : us[r]? = some all[vs.length + r] := by rw [← hgetu r hru]; exact hxi
      have hstep := hp2 p hp σ.length (by simp; omega) r (by simpa using hru)
      rw [hpt, hux] at hstep
      simp only [Bool.or_eq_true, List.any_eq_true, Bool.and_eq_true, decide_eq_true_eq, Bool.not_eq_true'] at hstep
      have hnext : ∃ p', p' ∈ ords ∧ p'.take (σ.length + 1) = σ ++ [r] := by
        rcases hstep with (h4 | ⟨j, hj, h5, h6⟩) | h4
        · exact absurd (by simpa using h4) hrn
        · have h7 := hcli j (by simpa using hj)
          by_cases hjl : j < all.length
          · rw [hl j hjl] at h7
            rw [h6] at h7
            simp at h7; omega
          · rw [show listed.getD j false = false by simp [Array.getD, show ¬ j < listed.size by omega]] at h7; simp at h7
        · exact h4
      obtain ⟨p', hp', hpt'⟩ := hnext
      have hs2 := sameS_mem h2 hp'
      rw [← List.take_append_drop (σ.length + 1) p', hpt', pick_append, pick_append, runS_append, runS_append, hrun] at hs2
      simp only [pick, hux, runS, Option.bind_some] at hs2
      obtain ⟨o', ho', hmI⟩ := mIs_get (i := vs.length + r) (x := all[vs.length + r].i) hm (by rw [List.getElem?_map, hxi]; rfl)
      have : o' = oi := by
        have : ops[vs.length + r]? = some o' := by simpa using ho'
        rw [hoi] at this; injection this with this; exact this.symm
      subst this
      obtain ⟨hg, hkl, _, _, _⟩ := usOk_spec hus hiv hin hxi
      simp only [mI, Bool.and_eq_true, decide_eq_true_eq] at hmI
      obtain ⟨⟨⟨hdst, hrng⟩, hgd⟩, hmE⟩ := hmI
      unfold wpOp
      simp only [hoi]
      rw [(wanted_of hgd).1 hg, if_pos rfl]
      left
      have hd : ∀ t, o'.dst = some t → t < a.tmps.size ∧ t < KEY := fun t ht => by
        rw [ht] at hrng
        simp only [Bool.and_eq_true, decide_eq_true_eq] at hrng
        exact ⟨by rw [hS.2.1]; exact hrng.1, hrng.2⟩
      obtain ⟨hdf, hsz', ω, rb, hR, hT⟩ := hS
      cases hst : step noE s all[vs.length + r].i.dst all[vs.length + r].i.op with
      | none => rw [hst] at hs2; simp at hs2
      | some s' =>
        rw [← hdst] at hst
        refine step_sound (m := ⟨a.tmps, m0.G, w, rb⟩) noE_ok hR rfl hmE hd hst _ Q fun a' w' ω' rb' h1 h2 h3 => ?_
        have hS' : Sit ω0 m0 N a' w' s' := ⟨by rw [h1]; exact hdf, h3.T.trans hsz', ω', rb', h2,
          (Tr.tmps hT).trans ⟨h3.os, h3.tape, h3.output, h3.size, h3.fr, rfl, rfl, h3.rb⟩⟩
        have hX : ∀ j, (listed.setIfInBounds (vs.length + r) true).getD j false = (listed.getD j false || decide (j = vs.length + r)) := fun j => getD_set (by omega)
        refine ih _ (σ ++ [r]) s' a' w' (by rw [List.length_append]; simp only [List.length_singleton]; omega) (by simpa using hls) (fun j hj => ?_) (fun j y hj hy j' hj' => ?_) ⟨p', hp', by rw [List.length_append]; exact hpt'⟩ ?_ hS'
        · rw [hX, hl j hj]
          by_cases h4 : j < vs.length
          · simp [h4]
          · rw [show (σ ++ [r]).contains (j - vs.length) = (σ.contains (j - vs.length) || decide (j = vs.length + r)) by
              have e : (j - vs.length = r) ↔ (j = vs.length + r) := by omega
              rw [Bool.eq_iff_iff]; simp [e]]
            simp only [h4, decide_false, Bool.false_or]
            have : decide (vs.length ≤ j) = true := by simp; omega
            rw [this, Bool.true_and, Bool.true_and]
        · simp only [hX, Bool.or_eq_true, decide_eq_true_eq] at hj ⊢
          rcases hj with hj | rfl
          · exact .inl (hc j y hj hy j' hj')
          · rw [hxi] at hy; injection hy with hy; subst hy
            exact .inl (hcli j' hj')
        · rw [pick_append, runS_append, hrun]
          simp only [pick, hux, runS, Option.bind_some]
          rw [← hdst, hst]; rfl
theorem Rep.eq {xs : List XD} {os : List Out} {st0 : St} {kc : Refs} {X : Nat → Bool} {s s' : St} {C : Nat → St} (h : Res P xs os C) (hX : ∀ j, X j = true → j < xs.length) (h1 : Rep xs os st0 kc X s) (h2 : Rep xs os st0 kc X s') :
    (∀ t, look s.sl t = look s'.sl t) ∧ (∀ k, lookR s.rf k = lookR s'.rf k) ∧ s.gh = s'.gh := by
  refine ⟨fun t => ?_, fun k => ?_, h1.gh.trans h2.gh.symm⟩
  · by_cases hex : ∃ (j : Nat) (y : XD), X j = true ∧ xs[j]? = some y ∧ y.i.dst = some t
    · obtain ⟨j, y, hj, hy, hd⟩ := hex
      obtain ⟨y', o', d', e1, e2, e3, _⟩ := h j (hX j hj)
      rw [hy] at e1; injection e1 with e1; subst e1
      rw [h1.sl j y o' t hj hy e2 hd, h2.sl j y o' t hj hy e2 hd]
    · rw [h1.sl0 t fun j y hj hy hd => hex ⟨j, y, hj, hy, hd⟩, h2.sl0 t fun j y hj hy hd => hex ⟨j, y, hj, hy, hd⟩]
  · by_cases hca : ∃ (j : Nat) (y : XD) (z : SV) (cs : List Cell), X j = true ∧ xs[j]? = some y ∧ os[j]? = some (Out.cal z k cs)
    · obtain ⟨j, y, z, cs, hj, hy, ho⟩ := hca
      rw [h1.rfk j y z k cs hj hy ho, h2.rfk j y z k cs hj hy ho]
    by_cases hex : ∃ (j : Nat) (y : XD) (cs : List Cell), X j = true ∧ xs[j]? = some y ∧ os[j]? = some (Out.al cs) ∧ y.i.dst = some k
    · obtain ⟨j, y, cs, hj, hy, ho, hd⟩ := hex
      rw [h1.rf j y cs k hj hy ho hd, h2.rf j y cs k hj hy ho hd]
    · rw [h1.rf0 k (fun j y cs hj hy ho hd => hex ⟨j, y, cs, hj, hy, ho, hd⟩) (fun j y z cs hj hy ho => hca ⟨j, y, z, cs, hj, hy, ho⟩),
        h2.rf0 k (fun j y cs hj hy ho hd => hex ⟨j, y, cs, hj, hy, ho, hd⟩) (fun j y z cs hj hy ho => hca ⟨j, y, z, cs, hj, hy, ho⟩)]
def dstsD (xs : List XD) : List Nat := xs.filterMap fun x => x.i.dst
def dropSl (l : List Nat) (st : St) : St := match l with
  | [] => st
  | _ :: _ => { st with sl := keepS (fun t => !l.contains t) st.sl }
theorem look_dropSl (l : List Nat) (st : St) (t : Nat) : look (dropSl l st).sl t = if l.contains t then .undef else look st.sl t := by
  unfold dropSl
  split
  · simp
  · simp only [look_keepS]
    cases hc : List.contains _ t <;> simp [hc]
theorem rf_dropSl (l : List Nat) (st : St) : (dropSl l st).rf = st.rf ∧ (dropSl l st).gh = st.gh := by unfold dropSl; split <;> exact ⟨rfl, rfl⟩
def WF (fs us : List XD) (ords : List (List Nat)) (K : St → Prop) (st : St) : Prop := match fs ++ us with
  | [] => K st
  | _ :: _ => Opt (runS (fs ++ us) (dropSl (dstsD fs) st)) fun s2 => sameS (fs ++ us) (dropSl (dstsD fs) st) s2 ords ∧ K s2
theorem vop_isQ {E : Env} {st : St} {op : XOp} (h : isQ op = true) : vop E st op = vop noE st op := by cases op <;> simp [isQ] at h <;> rfl
theorem countP_split {listed : Array Bool} {nv f n : Nat} (hn : nv + f ≤ n) (h1 : ∀ j, j < nv → listed.getD j false = true) (h2 : ∀ j, nv + f ≤ j → listed.getD j false = false) :
    (List.range n).countP (fun j => listed.getD j false) = nv + ((List.range f).filter fun r => listed.getD (nv + r) false).length := by
  obtain ⟨e, rfl⟩ : ∃ e, n = nv + f + e := ⟨n - (nv + f), by omega⟩
  rw [List.range_add, List.range_add, List.countP_append, List.countP_append, List.countP_map, List.countP_map, ← List.countP_eq_length_filter]
  have c1 : (List.range nv).countP (fun j => listed.getD j false) = nv := by
    have := List.countP_eq_length (p := fun j => listed.getD j false) (l := List.range nv)
    rw [List.length_range] at this
    exact this.2 fun j hj => h1 j (by simpa using hj)
  have c3 : (List.range e).countP ((fun j => listed.getD j false) ∘ fun x => nv + f + x) = 0 := by
    rw [List.countP_eq_zero]
    intro j hj
    simp only [Function.comp, h2 (nv + f + j) (by omega)]
    simp
  rw [c1, c3]; rfl
theorem fs_sound {K : St → Prop} {vs fs us ts : List XD} {ords : List (List Nat)} (hall : all = (vs ++ fs) ++ (us ++ ts)) (hm : mIs P N ops ops.toList (all.map (·.i)) = true) (hcl : clOk ops.toList all = true) (htl : tailOk all (vs.length + (fs ++ us).length) = true)
    (hus : usOk all vs.length (vs.length + fs.length) (vs.length + (fs ++ us).length) = true) (hor : ((fs ++ us).isEmpty || ordsOk vs.length (fs ++ us) ords) = true) (hdr : dropOk (vs ++ fs) = true) (hef : efChk (vs ++ fs) = true) (hQ : ∀ a w st, Sit ω0 m0 N a w st → K st → Q .normal a w)
    (fuel : Nat) (listed : Array Bool) (s : St) (a : Act) (w : World) (os : List Out) (C : Nat → St) (hol : os.length = (vs ++ fs).length) (h : Res P (vs ++ fs) os C) (hW : WF fs us ords (WI P (opsL ts) K) (C (vs ++ fs).length))
    (hcal : ∀ j y k cs, os[j]? = some (Out.cal y k cs) → j < vs.length) (hf : fuel + (List.range all.length).countP (fun j => listed.getD j false) = all.length) (hls : listed.size = all.length) (hc : Closed all (fun j => listed.getD j false))
    (hlast : ∀ j, (vs ++ fs).length ≤ j → listed.getD j false = false) (hv : ∀ j, j < vs.length → listed.getD j false = true) (hS : Sit ω0 m0 N a w s) (hR : Rep (vs ++ fs) os (C 0) (C (vs ++ fs).length).rf (fun j => listed.getD j false) s) : wpAny P .any ops Q fuel listed a w := by
  have he : EfOk (vs ++ fs) := by have := efChk_ok hef (vs ++ fs).length; rwa [List.take_length] at this
  have hlenV : (vs ++ fs).length = vs.length + fs.length := List.length_append
  have hsz : ops.size = all.length := by have := mIs_len hm; simpa using this
  have hxl : (vs ++ fs).length ≤ all.length := by rw [hall]; simp
  have hgetV : ∀ i, i < (vs ++ fs).length → all[i]? = (vs ++ fs)[i]? := fun i hi => by rw [hall, List.getElem?_append_left hi]
  have hr := h.rep he (vs ++ fs).length (Nat.le_refl _)
  have hcount := countP_split (listed := listed) (nv := vs.length) (f := fs.length) (n := all.length) (by omega) hv (fun j hj => hlast j (by omega))
  have hXlt : ∀ j, listed.getD j false = true → j < (vs ++ fs).length := fun j hj => by
    apply Nat.lt_of_not_le
    intro hle
    rw [hlast j hle] at hj; simp at hj
  unfold WF at hW
  split at hW
  · -- nothing floats, nothing is open
    rename_i hnil
    have hfs : fs = [] := by cases fs with | nil => rfl | cons x l => simp at hnil
    subst hfs
    have hnil2 : us = [] := by simpa using hnil
    subst hnil2
    rw [List.append_nil] at *
    have hX : (fun j => listed.getD j false) = fun j => decide (j < vs.length) := funext fun j => by
      by_cases hj : j < vs.length
      · rw [hv j hj]; simp [hj]
      · rw [hlast j (by omega)]; simp [hj]
    rw [hX] at hR
    obtain ⟨e1, e2, e3⟩ := Rep.eq h (fun j hj => by simpa using hj) hR hr
    have hS' := hS.congr (y := C vs.length) (fun t => (e1 t).symm) (fun k => (e2 k).symm) e3.symm
    simp only [List.length_nil, Nat.add_zero] at htl
    have hfin : ((List.range ([] : List XD).length).filter fun r => listed.getD (vs.length + r) false).length = 0 := rfl
    rw [hfin] at hcount
    exact tail_sound hm hcl htl hQ fuel vs.length listed _ a w (by omega) (Nat.le_refl _) hls (fun j hj => congrFun hX j) hS' (by rw [hall]; simpa using hW)
  · rename_i x0 xs0 hne
    obtain ⟨s2, h1, h2, h3⟩ := hW
    have hor' : ordsOk vs.length (fs ++ us) ords = true := by
      rw [hne] at hor ⊢
      simpa using hor
    have hor2 := hor'
    unfold ordsOk at hor2
    simp only [Bool.and_eq_true, List.all_eq_true, decide_eq_true_eq] at hor2
    obtain ⟨⟨hp1, hp0⟩, hp2⟩ := hor2
    have hne' : ∃ p, p ∈ ords := by
      cases ords with
      | nil => simp at hp0
      | cons p ps => exact ⟨p, by simp⟩
    have hdst : ∀ {t : Nat}, (dstsD fs).contains t = true → ∃ (j : Nat) (y : XD), vs.length ≤ j ∧ (vs ++ fs)[j]? = some y ∧ y.i.dst = some t := by
      intro t ht
      have : t ∈ dstsD fs := by simpa using ht
      unfold dstsD at this
      rw [List.mem_filterMap] at this
      obtain ⟨y, hy, hd⟩ := this
      obtain ⟨r, hr⟩ := List.getElem?_of_mem hy
      exact ⟨vs.length + r, y, by omega, by rw [List.getElem?_append_right (by omega), show vs.length + r - vs.length = r by omega]; exact hr, hd⟩
    have hfsq : ∀ (j : Nat) (y : XD), vs.length ≤ j → (vs ++ fs)[j]? = some y → y.i.guard = none ∧ isQ y.i.op = true ∧ y.ef = none := fun j y hj hy => by
      have hjl := (List.getElem?_eq_some_iff.1 hy).1
      obtain ⟨q1, q2, q3, q4, q5⟩ := usOk_spec hus (k := j) (x := y) hj (by rw [List.length_append]; omega) (by rw [hgetV j hjl]; exact hy)
      exact ⟨q1, q4 (by omega), q3⟩
    have hR0 : Rep (vs ++ fs) os (C 0) (C (vs ++ fs).length).rf (fun j => decide (j < vs.length)) (dropSl (dstsD fs) (C (vs ++ fs).length)) := by
      obtain ⟨r1, r2⟩ := rf_dropSl (dstsD fs) (C (vs ++ fs).length)
      refine ⟨by rw [r2, hr.gh], fun i x o d hi hx ho hd => ?_, fun t ht => ?_, fun i x cs d hi hx ho hd => ?_, fun i x y k cs hi hx ho => by rw [r1], fun k hk hk2 => ?_⟩
      · have hil := (List.getElem?_eq_some_iff.1 hx).1
        rw [look_dropSl, if_neg]
        · exact hr.sl i x o d (by simpa using hil) hx ho hd
        · intro hcc
          obtain ⟨j, y, hj, hy, hd2⟩ := hdst hcc
          have := h.inj he hx hy hd hd2
          simp only [decide_eq_true_eq] at hi; omega
      · rw [look_dropSl]
        split
        · rename_i hcc
          obtain ⟨j, y, hj, hy, hd2⟩ := hdst hcc
          rw [h.fresh0 he hy hd2]
        · rename_i hcc
          refine hr.sl0 t fun j y hj hy hd => ?_
          by_cases hjv : j < vs.length
          · exact ht j y (by simpa using hjv) hy hd
          · apply hcc
            rw [List.getElem?_append_right (by omega)] at hy
            have : t ∈ dstsD fs := List.mem_filterMap.2 ⟨y, List.mem_of_getElem? hy, hd⟩
            simpa using this
      · have hil := (List.getElem?_eq_some_iff.1 hx).1
        rw [r1]; exact hr.rf i x cs d (by simpa using hil) hx ho hd
      · rw [r1]
        refine hr.rf0 k (fun j y cs hj hy ho hd => ?_) (fun j y z cs hj hy ho => ?_)
        · by_cases hjv : j < vs.length
          · exact hk j y cs (by simpa using hjv) hy ho hd
          · obtain ⟨y', o', d', f1, f2, f3, _, f5, _⟩ := h j (by simpa using hj)
            rw [hy] at f1; injection f1 with f1; subst f1
            rw [ho] at f2; injection f2 with f2; subst f2
            have := (hfsq j y (by omega) hy).2.1
            rw [f5.1.1] at this; simp [isQ] at this
        · exact hk2 j y z cs (by simpa using hcal j z k cs ho) hy ho
    have step : ∀ r, r ≤ fs.length → ∃ s', runS (pick (fs ++ us) ((List.range r).filter fun q => listed.getD (vs.length + q) false)) (dropSl (dstsD fs) (C (vs ++ fs).length)) = some s' ∧
        Rep (vs ++ fs) os (C 0) (C (vs ++ fs).length).rf (fun j => decide (j < vs.length) || (decide (vs.length ≤ j) && decide (j < vs.length + r) && listed.getD j false)) s' ∧
        ∃ p, p ∈ ords ∧ p.take ((List.range r).filter fun q => listed.getD (vs.length + q) false).length = (List.range r).filter fun q => listed.getD (vs.length + q) false := by
      intro r
      induction r with
      | zero =>
        intro _
        obtain ⟨p, hp⟩ := hne'
        refine ⟨_, rfl, ?_, p, hp, rfl⟩
        have e : (fun j => decide (j < vs.length) || (decide (vs.length ≤ j) && decide (j < vs.length + 0) && listed.getD j false)) = fun j => decide (j < vs.length) := funext fun j => by
          by_cases hj : j < vs.length <;> simp [hj]
        rw [e]; exact hR0
      | succ r ih =>
        intro hrl
        obtain ⟨s', g1, g2, p, hp, hpt⟩ := ih (by omega)
        rw [List.range_succ, List.filter_append]
        cases hb : listed.getD (vs.length + r) false with
        | false =>
          rw [show List.filter (fun q => listed.getD (vs.length + q) false) [r] = [] by rw [List.filter_cons_of_neg (by rw [hb]; simp)]; rfl, List.append_nil]
          refine ⟨s', g1, ?_, p, hp, hpt⟩
          have e : (fun j => decide (j < vs.length) || (decide (vs.length ≤ j) && decide (j < vs.length + (r + 1)) && listed.getD j false)) = fun j => decide (j < vs.length) || (decide (vs.length ≤ j) && decide (j < vs.length + r) && listed.getD j false) := funext fun j => by
            by_cases hj : j = vs.length + r
            · subst hj; simp [hb]
            · have : (j < vs.length + (r + 1)) ↔ (j < vs.length + r) := by omega
              simp only [this]
          rw [e]; exact g2
        | true =>
          rw [show List.filter (fun q => listed.getD (vs.length + q) false) [r] = [r] by rw [List.filter_cons_of_pos (p := fun q => listed.getD (vs.length + q) false) hb]; rfl]
          have hxr : (vs ++ fs)[vs.length + r]? = some fs[r] := by
            rw [List.getElem?_append_right (by omega), show vs.length + r - vs.length = r by omega]
            exact List.getElem?_eq_getElem (by omega)
          generalize fs[r] = x at hxr
          have hall_x : all[vs.length + r]? = some x := by rw [hgetV _ (by omega)]; exact hxr
          obtain ⟨q1, q2, q3⟩ := hfsq _ x (by omega) hxr
          obtain ⟨x', o, d, e1, e2, e3, e4, e5, e6⟩ := h (vs.length + r) (by omega)
          rw [hxr] at e1; injection e1 with e1; subst e1
          have hclx : ∀ j, x.cl.contains j = true → (decide (j < vs.length) || (decide (vs.length ≤ j) && decide (j < vs.length + r) && listed.getD j false)) = true := fun j hj => by
            have hLj : listed.getD j false = true := hc _ x hb hall_x j hj
            have hlt : j < vs.length + r := by
              have key : ∀ (i : Nat) (y : XD), all[i]? = some y → ∀ j, y.cl.contains j = true → j < i := by
                intro i
                induction i using Nat.strongRecOn with
                | _ i ihi =>
                  intro y hy j hj
                  have hil := (List.getElem?_eq_some_iff.1 hy).1
                  obtain ⟨y', hy', k1, k2⟩ := clOk_spec hcl (i := i) (o := ops[i]'(by omega)) (by simp)
                  rw [hy] at hy'; injection hy' with hy'; subst hy'
                  obtain ⟨ed, hed, hb2, k3⟩ := k2 j hj
                  have k4 := k1 ed hed hb2
                  rcases k3 with rfl | ⟨z, hz, hzj⟩
                  · exact k4
                  · have := ihi ed.on k4 z hz j hzj
                    omega
              exact key _ x hall_x j hj
            by_cases hjv : j < vs.length
            · simp [hjv]
            · simp [hjv, hlt, hLj]; omega
          have hle := g2.le h he (fun j y k cs ho => by have := hcal j y k cs ho; simp [this]) (i := vs.length + r) (x := x) (by omega)
            (fun j y d hj hy hd => dropOk_spec hdr hxr hj hy hd) hclx (fun j z k cs hij hj ho => by have := hcal j z k cs ho; omega)
          have hXr : (decide (vs.length + r < vs.length) || (decide (vs.length ≤ vs.length + r) && decide (vs.length + r < vs.length + r) && listed.getD (vs.length + r) false)) = false := by simp
          have hfr := g2.fresh h he hxr e3 hXr
          cases o with
          | skip => simp [okOut, q1, gWant] at e5
          | al cs => rw [e5.1.1] at q2; simp [isQ] at q2
          | cal y k cs => rw [e5.2.2.2] at q3; simp at q3
          | val y =>
            obtain ⟨⟨k1, k2, ⟨E, hE, hvp⟩, k3⟩, k4⟩ := e5
            rw [vop_isQ q2] at hvp
            have hst := le_step (E := noE) hle k1 hvp (d := d) (by rw [hfr])
            have hputs : putSlot s' d y = ⟨putS s'.sl d y, s'.rf, s'.gh⟩ := by
              unfold putSlot
              rw [if_neg]
              simp [SV.owns, hfr]
            have hpk : (fs ++ us)[r]? = some x := by
              rw [List.getElem?_append_left (by omega)]
              rw [List.getElem?_append_right (by omega), show vs.length + r - vs.length = r by omega] at hxr
              exact hxr
            refine ⟨putSlot s' d y, ?_, ?_, ?_⟩
            · rw [pick_append, runS_append, g1]
              simp only [pick, hpk, runS, Option.bind_some, e3, hst]
            · have hput := g2.put h he hxr e2 e3 (by simp) (s' := putSlot s' d y) (by rw [hputs]) (fun t => by rw [hputs]; simp only [look_putS]; rfl) (fun k => by rw [hputs]; rfl)
              have e : (fun j => decide (j < vs.length) || (decide (vs.length ≤ j) && decide (j < vs.length + (r + 1)) && listed.getD j false)) = fun j => (decide (j < vs.length) || (decide (vs.length ≤ j) && decide (j < vs.length + r) && listed.getD j false)) || decide (j = vs.length + r) := funext fun j => by
                by_cases hj : j = vs.length + r
                · subst hj; simp [hb]
                · have : (j < vs.length + (r + 1)) ↔ (j < vs.length + r) := by omega
                  simp only [this, hj, decide_false, Bool.or_false]
              rw [e]; exact hput
            · have hlσ : ((List.range r).filter fun q => listed.getD (vs.length + q) false).length ≤ r := by
                have := List.length_filter_le (fun q => listed.getD (vs.length + q) false) (List.range r)
                simpa using this
              have hstep := hp2 p hp ((List.range r).filter fun q => listed.getD (vs.length + q) false).length (by rw [List.mem_range, List.length_append]; omega) r (by rw [List.mem_range, List.length_append]; omega)
              rw [hpt, hpk] at hstep
              simp only [Bool.or_eq_true, List.any_eq_true, Bool.and_eq_true, decide_eq_true_eq, Bool.not_eq_true'] at hstep
              rcases hstep with (h4 | ⟨j, hj, h5, h6⟩) | h4
              · simp at h4
              · have h7 := hclx j (by simpa using hj)
                have h8 : ((List.range r).filter fun q => listed.getD (vs.length + q) false).contains (j - vs.length) = true := by
                  simp only [show ¬ j < vs.length by omega, decide_false, Bool.false_or, Bool.and_eq_true, decide_eq_true_eq] at h7
                  have : j - vs.length ∈ (List.range r).filter fun q => listed.getD (vs.length + q) false := by
                    rw [List.mem_filter, List.mem_range]
                    refine ⟨by omega, ?_⟩
                    rw [show vs.length + (j - vs.length) = j by omega]; exact h7.2
                  simpa using this
                rw [h8] at h6; simp at h6
              · obtain ⟨p', hp', hpt'⟩ := h4
                exact ⟨p', hp', by rw [List.length_append]; exact hpt'⟩
    obtain ⟨s', g1, g2, g3⟩ := step fs.length (Nat.le_refl _)
    have e : (fun j => decide (j < vs.length) || (decide (vs.length ≤ j) && decide (j < vs.length + fs.length) && listed.getD j false)) = fun j => listed.getD j false := funext fun j => by
      by_cases hj : j < vs.length
      · rw [hv j hj]; simp [hj]
      · by_cases hj2 : j < vs.length + fs.length
        · simp [hj, hj2, show vs.length ≤ j by omega]
        · rw [hlast j (by omega)]; simp [hj]
    rw [e] at g2
    obtain ⟨e1, e2, e3⟩ := Rep.eq h hXlt hR g2
    have hS' := hS.congr (y := s') (fun t => (e1 t).symm) (fun k => (e2 k).symm) e3.symm
    refine us_sound (vs := vs) (us := fs ++ us) (ts := ts) (by rw [hall]; simp) hm hcl htl hus hor' hQ h2 h3 fuel listed _ s' a w (by omega) hls (fun j hj => ?_) hc g3 g1 hS'
    by_cases hj1 : j < vs.length
    · rw [hv j hj1]; simp [hj1]
    · have e4 : ((List.range fs.length).filter fun q => listed.getD (vs.length + q) false).contains (j - vs.length) = listed.getD j false := by
        cases hb : listed.getD j false with
        | true =>
          have hlt := hXlt j hb
          have : j - vs.length ∈ (List.range fs.length).filter fun q => listed.getD (vs.length + q) false := by
            rw [List.mem_filter, List.mem_range]
            exact ⟨by omega, by rw [show vs.length + (j - vs.length) = j by omega]; exact hb⟩
          simpa using this
        | false =>
          cases hcc : ((List.range fs.length).filter fun q => listed.getD (vs.length + q) false).contains (j - vs.length) with
          | false => rfl
          | true =>
            have : j - vs.length ∈ (List.range fs.length).filter fun q => listed.getD (vs.length + q) false := by simpa using hcc
            rw [List.mem_filter, show vs.length + (j - vs.length) = j by omega, hb] at this
            simp at this
      rw [e4]
      simp [hj1, show vs.length ≤ j by omega]
def permOp (pm : List Nat) (o : Oper) : Oper := { o with after := o.after.map (fun e => { e with on := pm.idxOf e.on }), guard := o.guard.map fun g => (pm.idxOf g.1, g.2) }
def permOps (pm : List Nat) (ops : Array Oper) : Array Oper := (pm.map fun q => permOp pm (ops[q]?.getD default)).toArray
def permOk (pm : List Nat) (n : Nat) : Bool := decide (pm.length = n) && (pm.all fun q => decide (q < n)) && ((List.range n).all fun q => pm.contains q) && (List.range n).all fun p => decide (pm.idxOf (pm.getD p 0) = p)
theorem permOk_spec {pm : List Nat} {n : Nat} (h : permOk pm n = true) : pm.length = n ∧ (∀ q, q ∈ pm → q < n) ∧ (∀ q, q < n → q ∈ pm) ∧ ∀ p, p < n → pm.idxOf (pm.getD p 0) = p := by
  unfold permOk at h
  simp only [Bool.and_eq_true, decide_eq_true_eq, List.all_eq_true] at h
  obtain ⟨⟨⟨h1, h2⟩, h3⟩, h4⟩ := h
  exact ⟨h1, h2, fun q hq => by simpa using h3 q (by simpa using hq), fun p hp => h4 p (by simpa using hp)⟩
theorem idxOf_lt {pm : List Nat} {n q : Nat} (h : permOk pm n = true) (hq : q < n) : pm.idxOf q < n ∧ pm.getD (pm.idxOf q) 0 = q := by
  obtain ⟨h1, h2, h3, h4⟩ := permOk_spec h
  have hl := List.idxOf_lt_length_of_mem (h3 q hq)
  refine ⟨by omega, ?_⟩
  rw [List.getD_eq_getElem?_getD, List.getElem?_eq_getElem hl]
  simp
theorem permOps_get {pm : List Nat} {n : Nat} (h : permOk pm n = true) (hn : ops.size = n) {q : Nat} : (permOps pm ops)[pm.idxOf q]? = (ops[q]?).map (permOp pm) := by
  obtain ⟨h1, h2, h3, h4⟩ := permOk_spec h
  unfold permOps
  rw [List.getElem?_toArray, List.getElem?_map]
  by_cases hq : q < n
  · have hl := List.idxOf_lt_length_of_mem (h3 q hq)
    rw [List.getElem?_eq_getElem hl]
    simp only [List.getElem_idxOf, Option.map_some]
    rw [Array.getElem?_eq_getElem (by omega)]; rfl
  · have hnm : q ∉ pm := fun hm => hq (h2 q hm)
    rw [List.idxOf_eq_length hnm, List.getElem?_eq_none (Nat.le_refl _), Array.getElem?_eq_none (by omega)]; rfl
theorem wpAny_perm {pm : List Nat} {n : Nat} (h : permOk pm n = true) (hn : ops.size = n) : ∀ (fuel : Nat) (listed listed2 : Array Bool) (a : Act) (w : World), listed.size = n → listed2.size = n → (∀ p, p < n → listed2.getD p false = listed.getD (pm.getD p 0) false) →
    wpAny P .any (permOps pm ops) Q fuel listed2 a w → wpAny P .any ops Q fuel listed a w := by
  obtain ⟨g1, g2, g3, g4⟩ := permOk_spec h
  have hidx : ∀ (listed listed2 : Array Bool), listed.size = n → listed2.size = n → (∀ p, p < n → listed2.getD p false = listed.getD (pm.getD p 0) false) → ∀ q, listed2.getD (pm.idxOf q) false = listed.getD q false := by
    intro listed listed2 h1 h2 h3 q
    by_cases hq : q < n
    · obtain ⟨e1, e2⟩ := idxOf_lt h hq
      rw [h3 _ e1, e2]
    · have hnm : q ∉ pm := fun hm => hq (g2 q hm)
      rw [List.idxOf_eq_length hnm]
      simp [Array.getD, show ¬ pm.length < listed2.size by omega, show ¬ q < listed.size by omega]
  have hready : ∀ (listed listed2 : Array Bool), listed.size = n → listed2.size = n → (∀ p, p < n → listed2.getD p false = listed.getD (pm.getD p 0) false) → ∀ q, q < n → (q ∈ Region.ready .any ops listed ↔ pm.idxOf q ∈ Region.ready .any (permOps pm ops) listed2) := by
    intro listed listed2 h1 h2 h3 q hq
    have hi := hidx listed listed2 h1 h2 h3
    obtain ⟨e1, e2⟩ := idxOf_lt h hq
    rw [mem_ready, mem_ready, permOps_get h hn, getD_tf (by omega), getD_tf (by omega), hi q]
    constructor
    · rintro ⟨a1, o, a2, a3⟩
      refine ⟨a1, permOp pm o, by rw [a2]; rfl, fun e he hb => ?_⟩
      simp only [permOp, Array.mem_map] at he
      obtain ⟨e', he', rfl⟩ := he
      exact (hi e'.on).trans (a3 e' he' hb)
    · rintro ⟨a1, o, a2, a3⟩
      rw [Option.map_eq_some_iff] at a2
      obtain ⟨o', a2, rfl⟩ := a2
      refine ⟨a1, o', a2, fun e he hb => ?_⟩
      have := a3 { e with on := pm.idxOf e.on } (by simp only [permOp, Array.mem_map]; exact ⟨e, he, rfl⟩) hb
      exact (hi e.on).symm.trans this
  intro fuel
  induction fuel with
  | zero =>
    intro listed listed2 a w h1 h2 h3 hw
    refine ⟨?_, hw.2⟩
    cases hr : Region.ready .any ops listed with
    | nil => rfl
    | cons q l =>
      have hq : q ∈ Region.ready .any ops listed := by rw [hr]; simp
      obtain ⟨_, o, ho, _⟩ := mem_ready.1 hq
      have hqn : q < n := by rw [← hn]; exact (Array.getElem?_eq_some_iff.1 ho).1
      have := (hready listed listed2 h1 h2 h3 q hqn).1 hq
      rw [hw.1] at this; cases this
  | succ fuel ih =>
    intro listed listed2 a w h1 h2 h3 hw
    refine ⟨fun hr => hw.1 ?_, fun q hq => ?_⟩
    · cases hr2 : Region.ready .any (permOps pm ops) listed2 with
      | nil => rfl
      | cons p l =>
        have hp : p ∈ Region.ready .any (permOps pm ops) listed2 := by rw [hr2]; simp
        obtain ⟨_, o, ho, _⟩ := mem_ready.1 hp
        have hpn : p < n := by
          have := (Array.getElem?_eq_some_iff.1 ho).1
          unfold permOps at this; simp at this; omega
        have hq : pm.getD p 0 < n := by
          apply g2
          rw [List.getD_eq_getElem?_getD, List.getElem?_eq_getElem (by omega)]
          simp
        have := (hready listed listed2 h1 h2 h3 (pm.getD p 0) hq).2 (by rw [g4 p hpn]; exact hp)
        rw [hr] at this; cases this
    · obtain ⟨_, o, ho, _⟩ := mem_ready.1 hq
      have hqn : q < n := by rw [← hn]; exact (Array.getElem?_eq_some_iff.1 ho).1
      have hw2 := hw.2 _ ((hready listed listed2 h1 h2 h3 q hqn).1 hq)
      have hg := permOps_get (ops := ops) h hn (q := q)
      rw [ho] at hg
      unfold wpOp at hw2 ⊢
      rw [hg] at hw2
      simp only [Option.map_some] at hw2
      simp only [ho]
      have hwant : Region.wanted (permOp pm o) (yielded (permOps pm ops) a.tmps) = Region.wanted o (yielded ops a.tmps) := by
        unfold Region.wanted
        cases hgd : o.guard with
        | none => simp [permOp, hgd]
        | some g =>
          obtain ⟨j, want⟩ := g
          simp only [permOp, hgd, Option.map_some]
          unfold yielded
          rw [permOps_get h hn]
          cases ops[j]? <;> rfl
      rw [hwant] at hw2
      have hih : ∀ (a : Act) (w : World), wpAny P .any (permOps pm ops) Q fuel (listed2.setIfInBounds (pm.idxOf q) true) a w → wpAny P .any ops Q fuel (listed.setIfInBounds q true) a w := fun a w hh => by
        obtain ⟨e1, e2⟩ := idxOf_lt h hqn
        refine ih _ _ a w (by simpa using h1) (by simpa using h2) (fun p hp => ?_) hh
        have hpq : pm.getD p 0 < n := by
          apply g2
          rw [List.getD_eq_getElem?_getD, List.getElem?_eq_getElem (by omega)]
          simp
        rw [getD_set (by omega), getD_set (by omega), h3 p hp]
        congr 1
        rw [decide_eq_decide]
        constructor
        · rintro rfl; exact e2
        · intro e; rw [← e]; exact (g4 p hp).symm
      split
      · rename_i hwt
        rw [hwt, if_pos rfl] at hw2
        rcases hw2 with hw2 | hw2
        · left
          have e : (permOp pm o).wp P a w (wpAny P .any (permOps pm ops) Q fuel (listed2.setIfInBounds (pm.idxOf q) true)) Q = o.wp P a w (wpAny P .any (permOps pm ops) Q fuel (listed2.setIfInBounds (pm.idxOf q) true)) Q := rfl
          rw [e] at hw2
          exact Oper.wp_mono hih hw2
        · exact .inr hw2
      · rename_i hwt
        rw [if_neg hwt] at hw2
        exact hih _ _ hw2
def permIf (pm : List Nat) (ops : Array Oper) : Array Oper := match pm with
  | [] => ops
  | _ :: _ => permOps pm ops
def permChk (pm : List Nat) (n : Nat) : Bool := match pm with
  | [] => true
  | _ :: _ => permOk pm n
theorem permIf_sound {pm : List Nat} {a : Act} {w : World} (h : permChk pm ops.size = true) (hw : wpAny P .any (permIf pm ops) Q (permIf pm ops).size (Array.replicate (permIf pm ops).size false) a w) : wpAny P .any ops Q ops.size (Array.replicate ops.size false) a w := by
  cases pm with
  | nil => exact hw
  | cons q pm =>
    have hs : (permIf (q :: pm) ops).size = ops.size := by
      show (permOps (q :: pm) ops).size = ops.size
      have := (permOk_spec h).1
      unfold permOps; simpa using this
    rw [hs] at hw
    refine wpAny_perm h rfl ops.size _ _ a w (by simp) (by simp) (fun p hp => ?_) hw
    have : ∀ j, (Array.replicate ops.size false).getD j false = false := fun j => by
      simp only [Array.getD]; split <;> simp
    rw [this, this]
end
def barOk (all : List XD) (nv nb : Nat) : Bool := (List.range all.length).all fun k => decide (k < nv) || (match all[k]? with
  | some x => (if k < nv + nb then x.i.guard.isNone && (List.range k).all fun j => x.cl.contains j else (List.range (nv + nb)).all fun j => x.cl.contains j)
  | none => false)
section
variable {P : Program} {ω0 : Nat → Lab} {m0 : Mc} {N : Nat} {ops : Array Oper} {Q : Exit → Act → World → Prop} {all : List XD}
theorem barOk_spec {nv nb : Nat} (h : barOk all nv nb = true) {k : Nat} {x : XD} (hk : nv ≤ k) (hx : all[k]? = some x) :
    (k < nv + nb → x.i.guard = none ∧ ∀ j, j < k → x.cl.contains j = true) ∧ (nv + nb ≤ k → ∀ j, j < nv + nb → x.cl.contains j = true) := by
  unfold barOk at h
  rw [List.all_eq_true] at h
  have h1 := h k (by simpa using (List.getElem?_eq_some_iff.1 hx).1)
  rw [hx] at h1
  simp only [Bool.or_eq_true, decide_eq_true_eq] at h1
  rcases h1 with h1 | h1
  · omega
  · constructor
    · intro hlt
      rw [if_pos hlt] at h1
      simp only [Bool.and_eq_true, List.all_eq_true, List.mem_range] at h1
      exact ⟨by simpa using h1.1, fun j hj => h1.2 j hj⟩
    · intro hge
      rw [if_neg (by omega)] at h1
      simp only [List.all_eq_true, List.mem_range] at h1
      exact fun j hj => h1 j hj
theorem closed_pre (hsz : ops.size = all.length) (hcl : clOk ops.toList all = true) {listed : Array Bool} {k : Nat} (hl : ∀ j, j < all.length → listed.getD j false = decide (j < k)) : Closed all fun j => listed.getD j false := fun j y hj hy j' hj' => by
  obtain ⟨y', hy', h1, h2⟩ := clOk_spec hcl (i := j) (o := ops[j]'(by have := (List.getElem?_eq_some_iff.1 hy).1; omega)) (by simp)
  rw [hy] at hy'; injection hy' with hy'; subst hy'
  have hjl := (List.getElem?_eq_some_iff.1 hy).1
  simp only [hl j hjl, decide_eq_true_eq] at hj
  have hj'' : j' < j := by
    induction j using Nat.strongRecOn generalizing y with
    | _ j ihj =>
      obtain ⟨e, he, hb, h3⟩ := h2 j' hj'
      have := h1 e he hb
      rcases h3 with rfl | ⟨z, hz, hzj⟩
      · exact this
      · have hel := (List.getElem?_eq_some_iff.1 hz).1
        obtain ⟨z', hz', g1, g2⟩ := clOk_spec hcl (i := e.on) (o := ops[e.on]'(by omega)) (by simp)
        rw [hz] at hz'; injection hz' with hz'; subst hz'
        have := ihj e.on (by omega) z hz hzj g1 g2 (List.getElem?_eq_some_iff.1 hz).1 (by omega)
        omega
  show listed.getD j' false = true
  rw [hl j' (by omega)]; simp only [decide_eq_true_eq]; omega
theorem bar_tail {K : St → Prop} {nv kb : Nat} (hm : mIs P N ops ops.toList (all.map (·.i)) = true) (hcl : clOk ops.toList all = true) (hkb : kb ≤ all.length)
    (hb1 : ∀ k x, nv ≤ k → k < kb → all[k]? = some x → x.i.guard = none ∧ ∀ j, j < k → x.cl.contains j = true) (hb2 : ∀ k x, kb ≤ k → all[k]? = some x → ∀ j, j < kb → x.cl.contains j = true)
    (hC : ∀ (fuel : Nat) (listed : Array Bool) (st : St) (a : Act) (w : World), fuel + kb = all.length → listed.size = all.length → (∀ j, j < all.length → listed.getD j false = decide (j < kb)) → Sit ω0 m0 N a w st → K st → wpAny P .any ops Q fuel listed a w) :
    ∀ (n k fuel : Nat) (listed : Array Bool) (st : St) (a : Act) (w : World), k + n = kb → fuel + k = all.length → nv ≤ k → listed.size = all.length → (∀ j, j < all.length → listed.getD j false = decide (j < k)) → Sit ω0 m0 N a w st → WI P (opsL ((all.drop k).take n)) K st →
      wpAny P .any ops Q fuel listed a w := by
  have hsz : ops.size = all.length := by have := mIs_len hm; simpa using this
  intro n
  induction n with
  | zero =>
    intro k fuel listed st a w hkn hf hk hls hl hS hW
    obtain rfl : k = kb := by omega
    exact hC fuel listed st a w hf hls hl hS hW
  | succ n ih =>
    intro k fuel listed st a w hkn hf hk hls hl hS hW
    have hkl : k < all.length := by omega
    obtain ⟨fuel, rfl⟩ : ∃ f, fuel = f + 1 := ⟨fuel - 1, by omega⟩
    have hkr : k ∈ Region.ready .any ops listed := ready_first hcl (by omega) (by omega) (by rw [hl k hkl]; simp) fun j hj => by rw [hl j (by omega)]; simpa using hj
    refine ⟨fun h0 => (by rw [h0] at hkr; cases hkr), fun i hi => ?_⟩
    obtain ⟨h0, o, ho, _⟩ := mem_ready.1 hi
    have hlt : i < all.length := by rw [← hsz]; exact (Array.getElem?_eq_some_iff.1 ho).1
    have hik : k ≤ i := by
      rw [getD_tf (by omega), hl i hlt] at h0
      simpa using h0
    have hxi : all[i]? = some all[i] := List.getElem?_eq_getElem hlt
    have hc := closed_pre hsz hcl hl
    have hcli := ready_cl hcl hc hi hxi
    have hii : i = k := by
      apply Nat.le_antisymm _ hik
      apply Nat.le_of_not_lt
      intro hlt'
      have h3 : all[i].cl.contains k = true := by
        by_cases h4 : i < kb
        · exact (hb1 i _ (by omega) h4 hxi).2 k hlt'
        · exact hb2 i _ (by omega) hxi k (by omega)
      have := hcli k h3
      rw [hl k hkl] at this
      simp at this
    subst hii
    have hxk : (all.drop i).take (n + 1) = all[i] :: (all.drop (i + 1)).take n := by rw [List.drop_eq_getElem_cons hlt, List.take_succ_cons]
    rw [hxk] at hW
    simp only [opsL, WI] at hW
    have hg := (hb1 i _ hk (by omega) hxi).1
    rw [hg] at hW
    simp only at hW
    obtain ⟨o', ho', hmI⟩ := mIs_get (i := i) (x := all[i].i) hm (by rw [List.getElem?_map, hxi]; rfl)
    have : o' = o := by
      have : ops[i]? = some o' := by simpa using ho'
      rw [ho] at this; injection this with this; exact this.symm
    subst this
    unfold wpOp
    simp only [ho]
    simp only [mI, Bool.and_eq_true, decide_eq_true_eq] at hmI
    obtain ⟨⟨⟨hdst, hrng⟩, hgd⟩, hmE⟩ := hmI
    rw [(wanted_of hgd).1 hg, if_pos rfl]
    left
    have hd : ∀ t, o'.dst = some t → t < a.tmps.size ∧ t < KEY := fun t ht => by
      rw [ht] at hrng
      simp only [Bool.and_eq_true, decide_eq_true_eq] at hrng
      exact ⟨by rw [hS.2.1]; exact hrng.1, hrng.2⟩
    obtain ⟨hdf, hsz', ω, rb, hR, hT⟩ := hS
    unfold goK at hW
    rw [← hdst] at hW
    refine goW_sound (m := ⟨a.tmps, m0.G, w, rb⟩) hR rfl hmE hd hW _ Q fun st' a' w' ω' rb' hk' h1 h2 h3 => ?_
    have hS' : Sit ω0 m0 N a' w' st' := ⟨by rw [h1]; exact hdf, h3.T.trans hsz', ω', rb', h2,
      (Tr.tmps hT).trans ⟨h3.os, h3.tape, h3.output, h3.size, h3.fr, rfl, rfl, h3.rb⟩⟩
    refine ih (i + 1) fuel _ _ a' w' (by omega) (by omega) (by omega) (by simpa using hls) (fun j hj => ?_) (hS'.killR _) hk'
    rw [getD_set (by omega), hl j hj]
    by_cases e : j = i
    · subst e; simp
    · simp only [e, decide_false, Bool.or_false]
      congr 1
      exact propext ⟨fun h => by omega, fun h => by omega⟩
def barChk (P : Program) (N : Nat) (ops : Array Oper) (vs bs us : List XD) (ords : List (List Nat)) (ts : List XD) : Bool :=
  mIs P N ops ops.toList ((vs ++ (bs ++ (us ++ ts))).map (·.i)) && clOk ops.toList (vs ++ (bs ++ (us ++ ts))) && tailOk (vs ++ (bs ++ (us ++ ts))) ((vs ++ bs).length + us.length) &&
    usOk (vs ++ (bs ++ (us ++ ts))) (vs ++ bs).length (vs ++ bs).length ((vs ++ bs).length + us.length) && (!us.isEmpty && ordsOk (vs ++ bs).length us ords) && dropOk vs && naOk vs && efChk vs && barOk (vs ++ (bs ++ (us ++ ts))) vs.length bs.length
theorem bar_sound {K : St → Prop} {vs bs us ts : List XD} {ords : List (List Nat)} (hb : barChk P N ops vs bs us ords ts = true) (hQ : ∀ a w st, Sit ω0 m0 N a w st → K st → Q .normal a w) {st : St} {a : Act} {w : World}
    (hW : DV P vs (WI P (opsL bs) (WF [] us ords (WI P (opsL ts) K))) st) (hS : Sit ω0 m0 N a w st) : wpAny P .any ops Q ops.size (Array.replicate ops.size false) a w := by
  simp only [barChk, Bool.and_eq_true] at hb
  obtain ⟨⟨⟨⟨⟨⟨⟨⟨k1, k2⟩, k3⟩, k4⟩, k5⟩, k6⟩, k7⟩, k8⟩, k9⟩ := hb
  obtain ⟨m, os, C, q0, q1, q2, q3, q4, q5, q6⟩ := DV_res _ _ st hW
  subst q2
  have hsz : ops.size = (vs ++ (bs ++ (us ++ ts))).length := by have := mIs_len k1; simpa using this
  have hx0 : ∀ j, (Array.replicate ops.size false).getD j false = false := fun j => by
    simp only [Array.getD]; split <;> simp
  have e0 : (fun j => (Array.replicate ops.size false).getD j false) = fun _ => false := funext hx0
  have hlen : (vs ++ (bs ++ (us ++ ts))).length = vs.length + (bs.length + (us.length + ts.length)) := by simp
  refine any_sound (all := vs ++ (bs ++ (us ++ ts))) (vs := vs) (ts := bs ++ (us ++ ts)) (nv := vs.length) (K := WI P (opsL bs) (WF [] us ords (WI P (opsL ts) K))) rfl k1 k2 (Nat.le_refl _) (fun i x k hx hk => (List.getElem?_eq_some_iff.1 hx).1) (fun k x hk hx j hj => ?_) k6 k7 k8
    (fun fuel listed s a w os C e1 e2 e3 e4 e5 e6 e7 e8 e9 e10 e11 e12 => ?_)
    ops.size _ (C 0) a w m os C q0 q1 q3 q4 q6 (fun j y k cs ho => absurd rfl (q5 j _ ho y k cs)) ?_ (by simp [hsz]) ?_ (fun j _ => hx0 j) hS ?_
  · have h1 := barOk_spec k9 hk hx
    by_cases h2 : k < vs.length + bs.length
    · exact (h1.1 h2).2 j (by omega)
    · exact h1.2 (by omega) j (by omega)
  · have hX : (fun j => listed.getD j false) = fun j => decide (j < vs.length) := funext fun j => by
      by_cases hj : j < vs.length
      · rw [e10 j hj]; simp [hj]
      · rw [e9 j (by omega)]; simp [hj]
    have he : EfOk vs := by have := efChk_ok k8 vs.length; rwa [List.take_length] at this
    have hr := e2.rep he vs.length (Nat.le_refl _)
    rw [hX] at e12
    obtain ⟨g1, g2, g3⟩ := Rep.eq e2 (fun j hj => by simpa using hj) e12 hr
    have hS' := e11.congr (y := C vs.length) (fun t => (g1 t).symm) (fun k => (g2 k).symm) g3.symm
    have hcount := countP_split (listed := listed) (nv := vs.length) (f := 0) (n := (vs ++ (bs ++ (us ++ ts))).length) (by omega) e10 (fun j hj => e9 j (by omega))
    have hfin : ((List.range 0).filter fun r => listed.getD (vs.length + r) false).length = 0 := rfl
    rw [hfin] at hcount
    refine bar_tail (K := WF [] us ords (WI P (opsL ts) K)) (nv := vs.length) (kb := (vs ++ bs).length) k1 k2 (by simp only [List.length_append]; omega)
      (fun k x hk hk2 hx => (barOk_spec k9 hk hx).1 (by rw [List.length_append] at hk2; exact hk2)) (fun k x hk hx j hj => (barOk_spec k9 (by rw [List.length_append] at hk; omega) hx).2 (by rw [List.length_append] at hk; exact hk) j (by rw [List.length_append] at hj; exact hj))
      (fun fuel listed st a w f1 f2 f3 f4 f5 => ?_) bs.length vs.length fuel listed (C vs.length) a w (by rw [List.length_append]) (by omega) (Nat.le_refl _) e7 (fun j hj => congrFun hX j) hS' (by rw [List.drop_left, List.take_left]; exact e3)
    obtain ⟨hne, hor⟩ := k5
    cases hus : us with
    | nil => simp [hus] at hne
    | cons x0 us0 =>
      rw [hus] at f5
      obtain ⟨s2, h1, h2, h3⟩ := f5
      rw [← hus] at h1 h2
      have hord := hor
      unfold ordsOk at hord
      simp only [Bool.and_eq_true, List.all_eq_true, decide_eq_true_eq] at hord
      have hpe : ∃ p, p ∈ ords := by
        cases ords with
        | nil => have := hord.1.2; simp at this
        | cons p ps => exact ⟨p, List.mem_cons_self ..⟩
      obtain ⟨p, hp⟩ := hpe
      exact us_sound (vs := vs ++ bs) (us := us) (ts := ts) (s0 := st) (s2 := s2) (by simp) k1 k2 k3 k4 hor hQ h2 h3 fuel listed [] st a w (by simpa using f1) f2 (fun j hj => by rw [f3 j hj]; simp) (closed_pre hsz k2 f3) ⟨p, hp, rfl⟩ rfl f4
  · rw [e0]
    have : ∀ n, (List.range n).countP (fun _ => false) = 0 := fun n => by simp
    rw [this, ← hsz]; omega
  · rw [e0]
    intro i x hi; cases hi
  · rw [e0]
    exact ⟨rfl, fun i x o d hi => (by cases hi), fun _ _ => rfl, fun i x cs d hi => (by cases hi), fun i x y k cs hi => (by cases hi), fun _ _ _ => rfl⟩
end
inductive XCode where
  | skip
  | ret
  | exit (id : Nat)
  | ops (k : List Nat) (l : XL)
  | seq (a b : XCode)
  | cond (x : XO) (a b : XCode)
  | block (id : Nat) (a : XCode)
  | loop (a : XCode)
  | any (pm : List Nat) (vs fs us : List XD) (ords : List (List Nat)) (ts : List XD)
  | bar (pm : List Nat) (vs bs us : List XD) (ords : List (List Nat)) (ts : List XD)
  | keep (sl rf : List Nat) (a : XCode)
inductive XExit where
  | normal
  | exit (id : Nat)
  | ret
def thenK (f : St → Prop) (K : XExit → St → Prop) : XExit → St → Prop
  | .normal, st => f st
  | .exit id, st => K (.exit id) st
  | .ret, st => K .ret st
def blkK (id : Nat) (K : XExit → St → Prop) : XExit → St → Prop
  | .normal, st => K .normal st
  | .exit id', st => if id' = id then K .normal st else K (.exit id') st
  | .ret, st => K .ret st
def loopK (J : St → Prop) (K : XExit → St → Prop) : XExit → St → Prop
  | .normal, st => J st
  | .exit id, st => K (.exit id) st
  | .ret, st => K .ret st
def condK (A B : St → Prop) (st : St) : Bool → Prop
  | true => A st
  | false => B st
def LoopW (w : (XExit → St → Prop) → St → Prop) (K : XExit → St → Prop) (st : St) : Prop :=
  ∃ (I : Nat → St → Prop), (∃ n, I n st) ∧ ∀ n s, I n s → w (loopK (fun s' => ∃ n', n' < n ∧ I n' s') K) s
def W (P : Program) : XCode → (XExit → St → Prop) → St → Prop
  | .skip, K, st => K .normal st
  | .ret, K, st => K .ret st
  | .exit id, K, st => K (.exit id) st
  | .ops k l, K, st => WI P l (killK k (K .normal)) st
  | .seq a b, K, st => W P a (thenK (W P b K) K) st
  | .cond x a b, K, st => match (evX st x).c1 with
    | .bool t => Br t (condK (W P a K) (W P b K) st)
    | _ => False
  | .block id a, K, st => W P a (blkK id K) st
  | .loop a, K, st => LoopW (W P a) K st
  | .any _ vs fs us ords ts, K, st => DV P (vs ++ fs) (WF fs us ords (WI P (opsL ts) (K .normal))) st
  | .bar _ vs bs us ords ts, K, st => DV P vs (WI P (opsL bs) (WF [] us ords (WI P (opsL ts) (K .normal)))) st
  | .keep sl rf a, K, st => W P a K (forget (fun s => sl.contains s) (fun k => KEY ≤ k || rf.contains k) st)
def anyOk (P : Program) (N : Nat) (ops : Array Oper) (vs fs us : List XD) (ords : List (List Nat)) (ts : List XD) : Bool :=
  mIs P N ops ops.toList (((vs ++ fs) ++ (us ++ ts)).map (·.i)) && clOk ops.toList ((vs ++ fs) ++ (us ++ ts)) && tailOk ((vs ++ fs) ++ (us ++ ts)) (vs.length + (fs ++ us).length) &&
    usOk ((vs ++ fs) ++ (us ++ ts)) vs.length (vs.length + fs.length) (vs.length + (fs ++ us).length) && ((fs ++ us).isEmpty || ordsOk vs.length (fs ++ us) ords) && dropOk (vs ++ fs) && naOk (vs ++ fs) && efChk (vs ++ fs)
def mCode (P : Program) (N : Nat) : Code → XCode → Bool
  | c, .keep _ _ x => mCode P N c x
  | .skip, .skip => true
  | .ret, .ret => true
  | .exit id, .exit id' => id == id'
  | .region _ ops false, .ops _ l => mIs P N ops ops.toList l.flat && scOk l
  | .region _ ops true, .any pm vs fs us ords ts => P.follows .mixedOrders && permChk pm ops.size && anyOk P N (permIf pm ops) vs fs us ords ts
  | .region _ ops true, .bar pm vs bs us ords ts => P.follows .mixedOrders && permChk pm ops.size && barChk P N (permIf pm ops) vs bs us ords ts
  | .seq a b, .seq x y => mCode P N a x && mCode P N b y
  | .cond c a b, .cond x y z => mO c x && mCode P N a y && mCode P N b z
  | .block id a, .block id' x => id == id' && mCode P N a x
  | .loop a, .loop x => mCode P N a x
  | _, _ => false
def XExit.to : XExit → Exit
  | .normal => .normal
  | .exit id => .exit id
  | .ret => .ret
def Post (ω0 : Nat → Lab) (m0 : Mc) (N : Nat) (K : XExit → St → Prop) (e : Exit) (a : Act) (w : World) : Prop :=
  ∃ x st, e = x.to ∧ Sit ω0 m0 N a w st ∧ K x st
section
variable {P : Program} {ω0 : Nat → Lab} {m0 : Mc} {N : Nat}
theorem w_sound : ∀ (x : XCode) (c : Code), mCode P N c x = true → ∀ (K : XExit → St → Prop) (st : St) (a : Act) (w : World), Sit ω0 m0 N a w st → W P x K st → c.wp P (Post ω0 m0 N K) a w
  | .keep sl rf x, c, hm, K, st, a, w, hS, hW => by
    refine w_sound x c (by cases c <;> simpa [mCode] using hm) K _ a w ?_ hW
    obtain ⟨h1, h2, ω, rb, h3, h4⟩ := hS
    exact ⟨h1, h2, ω, rb, h3.forget, h4⟩
  | .skip, c, hm, K, st, a, w, hS, hW => by
    cases c <;> simp [mCode] at hm
    exact wp_skip ⟨.normal, st, rfl, hS, hW⟩
  | .ret, c, hm, K, st, a, w, hS, hW => by
    cases c <;> simp [mCode] at hm
    exact wp_ret ⟨.ret, st, rfl, hS, hW⟩
  | .exit id, c, hm, K, st, a, w, hS, hW => by
    cases c <;> simp [mCode] at hm
    subst hm
    exact wp_exit ⟨.exit _, st, rfl, hS, hW⟩
  | .ops k l, c, hm, K, st, a, w, hS, hW => by
    cases c <;> try (simp [mCode] at hm; done)
    rename_i id ops draw
    cases draw with
    | true => simp [mCode] at hm
    | false =>
      simp only [mCode, Bool.and_eq_true] at hm
      refine wp_region ?_
      have := wi_sound (Q := Post ω0 m0 N K) l (killK k (K .normal)) ops.toList 0 [] (fun i _ => by simp) hm.1 hm.2 st a w hS hW (fun a w st h1 h2 => ⟨.normal, killR k st, rfl, h1.killR k, h2⟩)
      simpa [List.range_eq_range'] using this
  | .any pm vs fs us ords ts, c, hm, K, st, a, w, hS, hW => by
    cases c <;> try (simp [mCode] at hm; done)
    rename_i id ops draw
    cases draw with
    | false => simp [mCode] at hm
    | true =>
      simp only [mCode, Bool.and_eq_true] at hm
      obtain ⟨⟨h1, hpm⟩, hany⟩ := hm
      refine wp_region_any h1 (permIf_sound hpm ?_)
      generalize permIf pm ops = ops2 at hany ⊢
      simp only [anyOk, Bool.and_eq_true] at hany
      obtain ⟨⟨⟨⟨⟨⟨⟨k1, k2⟩, k3⟩, k4⟩, k5⟩, k6⟩, k7⟩, k8⟩ := hany
      obtain ⟨m, os, C, q0, q1, q2, q3, q4, q5, q6⟩ := DV_res _ _ st hW
      subst q2
      have hsz : ops2.size = ((vs ++ fs) ++ (us ++ ts)).length := by have := mIs_len k1; simpa using this
      have hx0 : ∀ j, (Array.replicate ops2.size false).getD j false = false := fun j => by
        simp only [Array.getD]; split <;> simp
      have e0 : (fun j => (Array.replicate ops2.size false).getD j false) = fun _ => false := funext hx0
      refine any_sound (all := (vs ++ fs) ++ (us ++ ts)) (vs := vs ++ fs) (ts := us ++ ts) (nv := vs.length) (K := WF fs us ords (WI P (opsL ts) (K .normal))) rfl k1 k2 (by simp) (fun i x k hx hk => ?_) (fun k x hk hx j hj => ?_) k6 k7 k8
        (fun fuel listed s a w os C e1 e2 e3 e4 e5 e6 e7 e8 e9 e10 e11 e12 => fs_sound rfl k1 k2 k3 k4 k5 k6 k8 (fun a w st h1 h2 => ⟨.normal, st, rfl, h1, h2⟩) fuel listed s a w os C e1 e2 e3 e5 e6 e7 e8 e9 e10 e11 e12)
        ops2.size _ (C 0) a _ m os C q0 q1 q3 q4 q6 (fun j y k cs ho => absurd rfl (q5 j _ ho y k cs)) ?_ (by simp [hsz]) ?_ (fun j _ => hx0 j) ?_ ?_
      · have hil := (List.getElem?_eq_some_iff.1 hx).1
        apply Nat.lt_of_not_le
        intro hle
        have := (usOk_spec k4 (k := i) (x := x) hle (by rw [List.length_append] at hil ⊢; omega) (by rw [List.getElem?_append_left hil]; exact hx)).2.2.1
        rw [hk] at this; simp at this
      · by_cases hk2 : k < vs.length + (fs ++ us).length
        · exact (usOk_spec k4 (by rw [List.length_append] at hk; omega) hk2 hx).2.2.2.2 (by rw [List.length_append] at hk; omega) j hj
        · exact (tailOk_spec k3 (by omega) hx).2 j (by rw [List.length_append] at hk; omega)
      · rw [e0]
        have : ∀ n, (List.range n).countP (fun _ => false) = 0 := fun n => by simp
        rw [this, ← hsz]; omega
      · rw [e0]
        intro i x hi; cases hi
      · obtain ⟨g1, g2, ω, rb, g3, g4⟩ := hS
        refine ⟨g1, g2, ω, rb, ?_, ⟨g4.os, g4.tape, g4.output, g4.size, g4.fr, rfl, rfl, g4.rb⟩⟩
        exact RR.ext (m := ⟨a.tmps, m0.G, w, rb⟩) (w' := { w with drawn := w.drawn + 1 }) g3 fun b x hx => ⟨hx, rfl⟩
      · rw [e0]
        exact ⟨rfl, fun i x o d hi => (by cases hi), fun _ _ => rfl, fun i x cs d hi => (by cases hi), fun i x y k cs hi => (by cases hi), fun _ _ _ => rfl⟩
  | .bar pm vs bs us ords ts, c, hm, K, st, a, w, hS, hW => by
    cases c <;> try (simp [mCode] at hm; done)
    rename_i id ops draw
    cases draw with
    | false => simp [mCode] at hm
    | true =>
      simp only [mCode, Bool.and_eq_true] at hm
      obtain ⟨⟨h1, hpm⟩, hbar⟩ := hm
      refine wp_region_any h1 (permIf_sound hpm ?_)
      generalize permIf pm ops = ops2 at hbar ⊢
      refine bar_sound hbar (fun a w st h1 h2 => ⟨.normal, st, rfl, h1, h2⟩) hW ?_
      obtain ⟨g1, g2, ω, rb, g3, g4⟩ := hS
      refine ⟨g1, g2, ω, rb, ?_, ⟨g4.os, g4.tape, g4.output, g4.size, g4.fr, rfl, rfl, g4.rb⟩⟩
      exact RR.ext (m := ⟨a.tmps, m0.G, w, rb⟩) (w' := { w with drawn := w.drawn + 1 }) g3 fun b x hx => ⟨hx, rfl⟩
  | .seq x y, c, hm, K, st, a, w, hS, hW => by
    cases c <;> try (simp [mCode] at hm; done)
    rename_i c d
    simp only [mCode, Bool.and_eq_true] at hm
    refine wp_seq (wp_mono (w_sound x c hm.1 _ st a w hS hW) ?_)
    rintro e a' w' ⟨xe, st', rfl, h1, h2⟩
    cases xe with
    | normal => exact w_sound y d hm.2 K st' a' w' h1 h2
    | exit id => exact ⟨.exit id, st', rfl, h1, h2⟩
    | ret => exact ⟨.ret, st', rfl, h1, h2⟩
  | .cond z x y, c, hm, K, st, a, w, hS, hW => by
    cases c <;> try (simp [mCode] at hm; done)
    rename_i o c d
    simp only [mCode, Bool.and_eq_true] at hm
    obtain ⟨⟨h1, h2⟩, h3⟩ := hm
    simp only [W] at hW
    split at hW
    · rename_i t ht
      have hv : a.eval o = .bool t := by
        obtain ⟨_, _, ω, rb, hR, _⟩ := hS
        exact (c1_of (m := ⟨a.tmps, m0.G, w, rb⟩) hR rfl h1 ht (by simp) (fun _ => .res 0)).1
      refine wp_cond hv ?_
      cases t with
      | true => exact w_sound x c h2 K st a w hS hW
      | false => exact w_sound y d h3 K st a w hS hW
    · exact hW.elim
  | .block id x, c, hm, K, st, a, w, hS, hW => by
    cases c <;> try (simp [mCode] at hm; done)
    rename_i id' c
    simp only [mCode, Bool.and_eq_true, beq_iff_eq] at hm
    obtain ⟨rfl, hm⟩ := hm
    refine wp_block (wp_mono (w_sound x c hm _ st a w hS hW) ?_)
    rintro e a' w' ⟨xe, st', rfl, h1, h2⟩
    cases xe with
    | normal => exact ⟨.normal, st', rfl, h1, h2⟩
    | exit id =>
      simp only [XExit.to, Exit.inBlock]
      simp only [blkK] at h2
      split
      · rename_i e; rw [if_pos e] at h2; exact ⟨.normal, st', rfl, h1, h2⟩
      · rename_i e; rw [if_neg e] at h2; exact ⟨.exit id, st', rfl, h1, h2⟩
    | ret => exact ⟨.ret, st', rfl, h1, h2⟩
  | .loop x, c, hm, K, st, a, w, hS, hW => by
    cases c <;> try (simp [mCode] at hm; done)
    rename_i c
    simp only [mCode] at hm
    obtain ⟨I, ⟨n0, h0⟩, hr⟩ := hW
    have key : ∀ n (st : St), I n st → ∀ a w, Sit ω0 m0 N a w st → ∀ (b : Frame) (k : List Item) (cs : List Frame),
        ∃ e a' w', Post ω0 m0 N K e a' w' ∧ Arrives P (lone (b.at a (.code c :: .inLoop c :: k)) cs w) b k cs e a' w' := by
      intro n
      induction n using Nat.strongRecOn with
      | _ n ih =>
        intro st hI a w hS b k cs
        obtain ⟨e, a₁, w₁, hq, harr⟩ := w_sound x c hm _ st a w hS (hr n st hI) b (.inLoop c :: k) cs
        obtain ⟨xe, st', rfl, h1, h2⟩ := hq
        cases xe with
        | normal =>
          obtain ⟨n', hlt, hI₁⟩ := h2
          obtain ⟨e₂, a₂, w₂, hq₂, harr₂⟩ := ih n' hlt st' hI₁ a₁ w₁ h1 b k cs
          exact ⟨e₂, a₂, w₂, hq₂, .of_steps (Steps.trans harr (.one step_inLoop)) harr₂⟩
        | exit id => exact ⟨_, a₁, w₁, ⟨.exit id, st', rfl, h1, h2⟩, .pass (x := .inLoop c) rfl (fun _ _ => .inl (by simp [XExit.to])) harr⟩
        | ret => exact ⟨_, a₁, w₁, ⟨.ret, st', rfl, h1, h2⟩, .pass (x := .inLoop c) rfl (fun _ _ => .inl (by simp [XExit.to])) harr⟩
    intro b k cs
    obtain ⟨e, a', w', hq, harr⟩ := key n0 st h0 a w hS b k cs
    exact ⟨e, a', w', hq, .of_steps (.one step_loop) harr⟩
end
def paramSlots : Nat → List SV → Slots
  | _, [] => []
  | j, x :: xs => putS (paramSlots (j + 1) xs) j (x.copy (.gho j))
def resCell : Cell → Cell
  | .int k n => .int k n
  | .bool b => .bool b
  | .str s => .str s
  | .own sz rows => .own sz rows
  | .ro sz rows => .ro sz rows
  | _ => .undef
def alRoots (r : Nat → Root) : Nat → List Cell → List Root
  | _, [] => []
  | j, c :: cs => (match c with
    | .al _ => [r j]
    | _ => []) ++ alRoots r (j + 1) cs
inductive RS where
  | tmp (t : Nat)
  | cell (t n : Nat) (ag : Bool)
inductive RB where
  | s (t : Nat)
  | r (k : Nat)
  deriving DecidableEq
def RB.fam : RB → Nat → Root
  | .s t => .slot t
  | .r k => .ref k
def RS.item (st : St) : RS → Option (RB × Bool × List Cell)
  | .tmp t => match (look st.sl t).sh with
    | .one => some (.s t, false, (look st.sl t).cs)
    | .agg => some (.s t, true, (look st.sl t).cs)
    | _ => none
  | .cell t n ag => match (look st.sl t).c1 with
    | .ptr k o => match lookR st.rf k with
      | some cs => if o = 0 ∧ cs.length = n then (if ag then some (.r k, true, cs) else match cs with
        | [c] => if c.plain then some (.r k, false, [c]) else none
        | _ => none) else none
      | none => none
    | _ => none
def gather (st : St) : List RS → Option (List (RB × Bool × List Cell))
  | [] => some []
  | r :: rs => match r.item st, gather st rs with
    | some x, some l => some (x :: l)
    | _, _ => none
def resRoots : List (RB × Bool × List Cell) → List Root
  | [] => []
  | (b, _, cs) :: l => alRoots b.fam 0 cs ++ resRoots l
def itemsNodup : List (RB × Bool × List Cell) → Bool
  | [] => true
  | (b, _, _) :: l => (l.all fun x => !decide (x.1 = b)) && itemsNodup l
def itemsLocal : List (RB × Bool × List Cell) → Bool
  | [] => true
  | (b, _, _) :: l => (match b with
    | .s _ => true
    | .r k => decide (k < KEY)) && itemsLocal l
def itemCells : List (RB × Bool × List Cell) → List Cell
  | [] => []
  | (_, _, cs) :: l => cs.map resCell ++ itemCells l
def itemComps : List (RB × Bool × List Cell) → List (Bool × Nat)
  | [] => []
  | (_, ag, cs) :: l => (ag, cs.length) :: itemComps l
def resSh : List (Bool × Nat) → Sh
  | [(false, _)] => .one
  | [(true, _)] => .agg
  | l => .tup l
def hitKeys (c : Cell) : Bool := c.keys.any fun k => decide (k < KEY)
def finish (st : St) (rs : List RS) : Option (SV × Slots × Refs) :=
  match gather st rs with
  | some l0 => match ownAll st (resRoots l0) with
    | some st1 => match gather st1 rs with
      | some l => if itemsNodup l && itemsLocal l then some (⟨resSh (itemComps l), itemCells l⟩, ((forget (fun _ => false) (fun k => decide (KEY ≤ k)) st1).filt hitKeys).gh, ((forget (fun _ => false) (fun k => decide (KEY ≤ k)) st1).filt hitKeys).rf) else none
      | none => none
    | none => none
  | none => none
def finK (rs : List RS) (Q : SV × Slots × Refs → Prop) : XExit → St → Prop
  | .normal, st => Opt (finish st rs) Q
  | .ret, st => Opt (finish st rs) Q
  | .exit _, _ => False
def Fin (res : SV) (args' : List SV) (rf' : Refs) (r : SV × Slots × Refs) : Prop := r = (res, argSlots 0 args', rf')
def resOff : List (RB × Bool × List Cell) → Nat → RB → Option Nat
  | [], _, _ => none
  | (b, _, cs) :: l, j, b' => if b = b' then some j else resOff l (j + cs.length) b'
def resLab (l : List (RB × Bool × List Cell)) : Lab → Lab
  | .at r q => match r with
    | .slot t c => match resOff l 0 (.s t) with
      | some j => .at (.res (j + c)) q
      | none => .junk
    | .ref k c => match resOff l 0 (.r k) with
      | some j => .at (.res (j + c)) q
      | none => .at (.ref k c) q
    | r => .at r q
  | l => l
theorem resOff_local : ∀ {l : List (RB × Bool × List Cell)} {j k x : Nat}, itemsLocal l = true → resOff l j (.r k) = some x → k < KEY
  | [], _, _, _, _, h => by simp [resOff] at h
  | (b, _, cs) :: l, j, k, x, hl, h => by
    simp only [itemsLocal, Bool.and_eq_true] at hl
    simp only [resOff] at h
    split at h
    · rename_i e; subst e; simpa using hl.1
    · exact resOff_local hl.2 h
theorem resLab_at {l : List (RB × Bool × List Cell)} {b : RB} {j c : Nat} {q : Path} (h : resOff l 0 b = some j) : resLab l (.at (b.fam c) q) = .at (.res (j + c)) q := by
  cases b <;> simp [RB.fam, resLab, h]
theorem look_paramSlots : ∀ (xs : List SV) (j i : Nat), look (paramSlots j xs) i = if j ≤ i then ((xs[i - j]?).getD .undef).copy (.gho i) else .undef
  | [], j, i => by simp [paramSlots, look]; intro _; rfl
  | x :: xs, j, i => by
    simp only [paramSlots, look_putS, look_paramSlots xs (j + 1) i]
    by_cases h : j = i
    · subst h; simp
    · by_cases h2 : j ≤ i
      · rw [if_neg h, if_pos (by omega), if_pos h2, show i - j = (i - (j + 1)) + 1 by omega]; simp
      · rw [if_neg h, if_neg (by omega), if_neg h2]
section
variable {P : Program} {E : Env} {ω : Nat → Lab} {m : Mc} {st : St}
theorem begin_sound {args : List SV} {rf : Refs} {T : Array Value} (hT : ∀ i, i < args.length → T.getD i undef = m.G.getD i undef) (h : RR ω m ⟨[], rf, argSlots 0 args⟩) :
    RR ω { m with T := T } ⟨paramSlots 0 args, rf, argSlots 0 args⟩ := by
  have hmain : ∀ (i : Nat), SVR ω { m with T := T } (.slot i) (T.getD i undef) (look (paramSlots 0 args) i) := by
    intro i
    have hg := h.r.gh i
    simp only [look_argSlots, look_paramSlots, Nat.zero_le, if_true, Nat.sub_zero] at hg ⊢
    cases hx : args[i]? with
    | none => exact SVR_no rfl
    | some x =>
      rw [hx] at hg
      simp only [Option.getD_some] at hg ⊢
      rw [hT i (List.getElem?_eq_some_iff.1 hx).1]
      have : SVR ω m (.slot i) (m.G.getD i undef) (x.copy (.gho i)) := SVR_copy (fun j u hu => hu) hg
      by_cases hs : x.sh = .no
      · exact SVR_no hs
      · have hs' : (x.copy (.gho i)).sh ≠ .no := hs
        rw [SVR_iff hs', CRs_iff] at this ⊢
        refine ⟨this.1, this.2.1, fun k v c hv hc => ?_⟩
        have h1 := this.2.2 k v c hv hc
        have hno : c.isOwn = false := by
          simp only [SV.copy, copyCs_get, Option.map_eq_some_iff] at hc
          obtain ⟨c0, _, rfl⟩ := hc
          exact Cell.copy_own _ _
        refine h1.keep (Stay.refl _ _ _) (fun e => by rw [hno] at e; simp at e) (fun _ _ => rfl) (fun p hp => ⟨fun v0 h0 => ?_, fun q _ => Stay.refl _ _ _⟩)
        have hpr : ∃ j c', p.r = .gho j c' ∨ ∃ k c', p.r = .ref k c' := by
          have hal : (rootCell (⟨[], rf, argSlots 0 args⟩ : St) p.r).isOwn = true := by
            simp only [SV.copy, copyCs_get, Option.map_eq_some_iff] at hc
            obtain ⟨c0, hc0, rfl⟩ := hc
            have hget : rootCell (⟨[], rf, argSlots 0 args⟩ : St) (.gho i k) = c0 := by
              simp only [rootCell, look_argSlots, Nat.zero_le, if_true, Nat.sub_zero, hx, Option.getD_some]
              unfold SV.get
              split
              · rename_i e; exact absurd e hs
              · rw [hc0]; rfl
            rcases Cell.copy_places hp with ⟨h2, h3⟩ | h2
            · rw [h3, Nat.zero_add, hget]; exact h2
            · exact h.al (.gho i k) p (by rw [hget]; exact h2)
          cases hr : p.r with
          | slot s c' => rw [hr] at hal; simp [rootCell, look, SV.get, Cell.isOwn] at hal
          | res c' => rw [hr] at hal; simp [rootCell, Cell.isOwn] at hal
          | gho j c' => exact ⟨j, c', .inl rfl⟩
          | ref k c' => exact ⟨k, c', .inr ⟨k, c', rfl⟩⟩
        obtain ⟨j, c', h5 | ⟨k, c', h5⟩⟩ := hpr <;> rw [h5] at h0 ⊢ <;> exact h0
  have hfin := h.r.move (m' := { m with T := T }) (ω' := ω) (fun _ => false) (fun s => .inr rfl) rfl
    (fun r v c hc hne _ hcr => by
      refine hcr.keep (Stay.refl _ _ _) (fun _ _ => Stay.refl _ _ _) (fun _ _ => rfl) (fun p hp => ⟨fun v0 h0 => ?_, fun q _ => Stay.refl _ _ _⟩)
      have hal := h.al r p (by rw [hc]; exact hp)
      cases hr : p.r with
      | slot s c' => rw [hr] at hal; simp [rootCell, look, SV.get, Cell.isOwn] at hal
      | res c' => rw [hr] at hal; simp [rootCell, Cell.isOwn] at hal
      | gho j c' => rw [hr] at h0; exact h0
      | ref k c' => rw [hr] at h0; exact h0)
    (fun k hk => ⟨rfl, fun arr elem h1 h2 => ⟨h2, h1⟩⟩)
  rw [filt_false] at hfin
  have hroot : ∀ r, (∀ s c, r ≠ .slot s c) → rootCell (⟨paramSlots 0 args, rf, argSlots 0 args⟩ : St) r = rootCell (⟨[], rf, argSlots 0 args⟩ : St) r := fun r hr => by
    cases r with
    | slot s c => exact absurd rfl (hr s c)
    | _ => rfl
  have hns : ∀ p : Pl, (rootCell (⟨[], rf, argSlots 0 args⟩ : St) p.r).isOwn = true → (rootCell (⟨paramSlots 0 args, rf, argSlots 0 args⟩ : St) p.r).isOwn = true := fun p hp => by
    rw [hroot]; exact hp
    intro s c e; rw [e] at hp; simp [rootCell, look, SV.get, Cell.isOwn] at hp
  refine ⟨⟨hmain, hfin.gh, hfin.rf⟩, fun r p hp => ?_⟩
  by_cases hr : ∃ s c, r = .slot s c
  · obtain ⟨i, c, rfl⟩ := hr
    simp only [rootCell, look_paramSlots, Nat.zero_le, if_true, Nat.sub_zero, SV.get_copy] at hp
    refine hns p ?_
    have hg : rootCell (⟨[], rf, argSlots 0 args⟩ : St) (.gho i c) = (((args[i]?).getD .undef).get c) := by
      simp only [rootCell, look_argSlots, Nat.zero_le, if_true, Nat.sub_zero]
    rcases Cell.copy_places hp with ⟨h2, h3⟩ | h2
    · rw [h3, hg]; exact h2
    · exact h.al (.gho i c) p (by rw [hg]; exact h2)
  · rw [hroot r (fun s c e => hr ⟨s, c, e⟩)] at hp
    exact hns p (h.al r p hp)
def resVal : List Value → Value
  | [v] => v
  | vs => .tuple vs.toArray
def resOne (T : Array Value) : ResultVar → Sem Value
  | .tmp t => pure (T.getD t undef)
  | .cell a t => do loadVar t (← asAddr (T.getD a undef))
theorem results_run {P : Program} {fn : Func} {T : Array Value} {w : World} {vs : List Value} (h : (fn.results.toList.mapM (resOne T)).run P w = .ok vs w) : (results fn T).run P w = .ok (resVal vs) w := by
  have e : results fn T = (do
    let vs ← fn.results.mapM (resOne T)
    pure (if h : vs.size = 1 then vs[0] else .tuple vs)) := rfl
  rw [e, Array.mapM_eq_mapM_toList, Sem.run_bind, Sem.run_map, h]
  simp only [Result.andThen_ok, Sem.run_pure]
  match vs with
  | [] => rfl
  | [t] => rfl
  | t :: t' :: rs => simp [resVal]
def mRes (P : Program) : List ResultVar → List RS → Bool
  | [], [] => true
  | .tmp t :: xs, .tmp t' :: ys => t == t' && mRes P xs ys
  | .cell t ty :: xs, .cell t' n ag :: ys => t == t' && tyIs P ty ag n && mRes P xs ys
  | _, _ => false
theorem resCell_CR {ω' : Nat → Lab} {w : World} {T T' : Array Value} {G : Array Value} {rb rb' : Nat → Nat} {r r' : Root} {v : Value} {c : Cell} (hl : ∀ b q, ω b = .at r q → ω' b = .at r' q) (hf : ∀ b, ω b = .frame → ω' b = .frame)
    (h : CR ω ⟨T, G, w, rb⟩ r v c) : CR ω' ⟨T', G, w, rb'⟩ r' v (resCell c) := by
  cases c with
  | own sz rows => exact rd_carry _ _ _ _ (fun q ad k arr elem fz hh hq => ⟨hh, hl _ _ hq.1, hq.2⟩) h
  | ro sz rows => exact rd_carry _ _ _ _ (fun q ad k arr elem fz hh hq => ⟨hh, hf _ hq⟩) h
  | int k n => exact h
  | bool b => exact h
  | str s => exact h
  | _ => trivial
def itemOk (ω : Nat → Lab) (m : Mc) (v : Value) (x : RB × Bool × List Cell) : Prop :=
  (match x.2.1 with
    | true => ∃ arr, v = .agg arr ∧ arr.size = x.2.2.length
    | false => Value.single v = true ∧ x.2.2.length = 1) ∧ CRs ω m x.1.fam 0 (flat1 v) x.2.2
theorem flat1_single {v : Value} (h : Value.single v = true) : flat1 v = [v] ∧ flatV v = [v] := by
  cases v <;> simp [Value.single] at h <;> exact ⟨rfl, rfl⟩
theorem item_sound (h : RR ω m st) {r : ResultVar} {x : RS} {y : RB × Bool × List Cell} (hm : mRes P [r] [x] = true) (hi : x.item st = some y) :
    ∃ v, (resOne m.T r).run P m.w = .ok v m.w ∧ itemOk ω m v y := by
  cases r with
  | tmp t =>
    cases x with
    | cell _ _ _ => simp [mRes] at hm
    | tmp t' =>
      simp only [mRes, Bool.and_true, beq_iff_eq] at hm; subst hm
      refine ⟨m.T.getD t undef, rfl, ?_⟩
      have hs := h.r.sl t
      simp only [RS.item] at hi
      split at hi
      · rename_i hsh
        simp only [Option.some.injEq] at hi; subst hi
        rw [SVR_iff (by rw [hsh]; simp), hsh] at hs
        have hsing : Value.single (m.T.getD t undef) = true := hs.1
        have h2 := hs.2
        rw [(flat1_single hsing).2] at h2
        exact ⟨⟨hsing, by rw [CRs_iff] at h2; simpa using h2.1.symm⟩, by rw [(flat1_single hsing).1]; exact h2⟩
      · rename_i hsh
        simp only [Option.some.injEq] at hi; subst hi
        rw [SVR_iff (by rw [hsh]; simp), hsh] at hs
        obtain ⟨⟨arr, harr⟩, h2⟩ := hs
        rw [harr] at h2
        refine ⟨⟨arr, harr, by rw [CRs_iff] at h2; simpa [flatV] using h2.1⟩, ?_⟩
        rw [harr]; exact h2
      · simp at hi
  | cell a t =>
    cases x with
    | tmp _ => simp [mRes] at hm
    | cell t' n ag =>
      simp only [mRes, Bool.and_true, Bool.and_eq_true, beq_iff_eq] at hm
      obtain ⟨rfl, hty⟩ := hm
      simp only [RS.item] at hi
      split at hi
      · rename_i k o hc
        have hp := (SVR_c1 (h.r.sl a) (by rw [hc]; simp)).2
        rw [hc] at hp
        have hp' : m.T.getD a undef = .pointer (some ⟨m.rb k, o, none⟩) := hp
        split at hi
        · rename_i cs hcs
          split at hi
          · rename_i hcond
            obtain ⟨rfl, hn⟩ := hcond
            obtain ⟨arr, elem, h1, h2, h3⟩ := h.r.rf k cs hcs
            have hlen : arr.toList.length = n := by rw [CRs_iff] at h3; rw [h3.1, hn]
            have hrun := run_loadVar (P := P) (w := m.w) (o := 0) hty h1 arr.toList hlen (fun j v hj => by simpa using hj)
            refine ⟨if ag then .agg arr.toList.toArray else arr.toList.headD undef, ?_, ?_⟩
            · simp only [resOne, hp', asAddr, pure_bind]
              exact hrun
            · cases ag with
              | true =>
                simp only [if_true, Option.some.injEq] at hi; subst hi
                exact ⟨⟨arr, rfl, by rw [hn]; exact hlen⟩, h3⟩
              | false =>
                simp only [Bool.false_eq_true, if_false] at hi
                split at hi
                · rename_i c
                  split at hi
                  · rename_i hpl
                    simp only [Option.some.injEq] at hi; subst hi
                    have hl1 : arr.toList.length = 1 := by rw [hlen, ← hn]; rfl
                    obtain ⟨u, hu⟩ : ∃ u, arr.toList = [u] := by
                      cases hx : arr.toList with
                      | nil => rw [hx] at hl1; simp at hl1
                      | cons u us => cases us with
                        | nil => exact ⟨u, rfl⟩
                        | cons _ _ => rw [hx] at hl1; simp at hl1
                    rw [hu] at h3
                    have hsing : Value.single u = true := CR_single h3.1 hpl
                    simp only [hu, Bool.false_eq_true, if_false, List.headD_cons]
                    refine ⟨⟨hsing, rfl⟩, ?_⟩
                    rw [(flat1_single hsing).1]; exact h3
                  · simp at hi
                · simp at hi
          · simp at hi
        · simp at hi
      · simp at hi
theorem gather_run (h : RR ω m st) : ∀ (xs : List ResultVar) (rs : List RS) (l : List (RB × Bool × List Cell)), mRes P xs rs = true → gather st rs = some l →
    ∃ vs : List Value, (xs.mapM (resOne m.T)).run P m.w = .ok vs m.w ∧ vs.length = l.length ∧ ∀ (i : Nat) v x, vs[i]? = some v → l[i]? = some x → itemOk ω m v x
  | [], [], l, _, hg => by
    simp only [gather, Option.some.injEq] at hg; subst hg
    exact ⟨[], rfl, rfl, by simp⟩
  | x :: xs, r :: rs, l, hm, hg => by
    simp only [gather] at hg
    split at hg
    · rename_i y l1 h1 h2
      simp only [Option.some.injEq] at hg; subst hg
      have hm1 : mRes P [x] [r] = true ∧ mRes P xs rs = true := by
        cases x <;> cases r <;> simp [mRes] at hm ⊢ <;> first | exact ⟨hm.1, hm.2⟩ | exact ⟨⟨hm.1.1, hm.1.2⟩, hm.2⟩
      obtain ⟨v, h3, h4⟩ := item_sound h hm1.1 h1
      obtain ⟨vs, h5, h6, h7⟩ := gather_run h xs rs l1 hm1.2 h2
      refine ⟨v :: vs, ?_, by simp [h6], fun i u z hu hz => ?_⟩
      · rw [List.mapM_cons, Sem.run_bind, h3]
        simp only [Result.andThen_ok, Sem.run_bind, h5, Sem.run_pure]
      · cases i with
        | zero => simp at hu hz; subst hu; subst hz; exact h4
        | succ i => simp at hu hz; exact h7 i u z hu hz
    · simp at hg
  | [], _ :: _, _, hm, _ => by simp [mRes] at hm
  | _ :: _, [], _, hm, _ => by rename_i x _ _; cases x <;> simp [mRes] at hm
theorem items_sound {w : World} {T T' : Array Value} {G : Array Value} {rb rb' : Nat → Nat} {OFF : RB → Option Nat} {ω' : Nat → Lab}
    (hl : ∀ t j c b q, OFF t = some j → ω b = .at (t.fam c) q → ω' b = .at (.res (j + c)) q) (hf : ∀ b, ω b = .frame → ω' b = .frame) :
    ∀ (l : List (RB × Bool × List Cell)) (vs : List Value) (j : Nat), itemsNodup l = true → vs.length = l.length → (∀ (i : Nat) v x, vs[i]? = some v → l[i]? = some x → itemOk ω ⟨T, G, w, rb⟩ v x) →
      (∀ t x, (∃ y ∈ l, y.1 = t) → resOff l j t = some x → OFF t = some x) →
      compOk vs (itemComps l) ∧ CRs ω' ⟨T', G, w, rb'⟩ .res j (vs.flatMap flat1) (itemCells l)
  | [], [], j, _, _, _, _ => ⟨trivial, trivial⟩
  | [], _ :: _, _, _, h, _, _ => by simp at h
  | _ :: _, [], _, _, h, _, _ => by simp at h
  | (b, ag, cs) :: l, v :: vs, j, hnd, hlen, hit, hoff => by
    simp only [itemsNodup, Bool.and_eq_true] at hnd
    have hoff0 : OFF b = some j := hoff b j ⟨(b, ag, cs), by simp, rfl⟩ (by simp [resOff])
    obtain ⟨h1, h2⟩ := hit 0 v (b, ag, cs) rfl rfl
    have hcr : CRs ω' ⟨T', G, w, rb'⟩ .res j (flat1 v) (cs.map resCell) := by
      rw [CRs_iff] at h2 ⊢
      refine ⟨by simpa using h2.1, fun i v c hvv hc => ?_⟩
      simp only [List.getElem?_map, Option.map_eq_some_iff] at hc
      obtain ⟨c0, hc0, rfl⟩ := hc
      have := h2.2 i v c0 hvv hc0
      rw [Nat.zero_add] at this
      exact resCell_CR (fun b' q hb => hl b j i b' q hoff0 hb) hf this
    have ih := items_sound (T' := T') (rb' := rb') (OFF := OFF) hl hf l vs (j + cs.length) hnd.2 (by simpa using hlen) (fun i v x hv hx => hit (i + 1) v x (by simpa using hv) (by simpa using hx))
      (fun t x ht hx => hoff t x (by obtain ⟨y, hy, e⟩ := ht; exact ⟨y, by simp [hy], e⟩) (by
        simp only [resOff]
        rw [if_neg]; exact hx
        intro e; subst e
        obtain ⟨y, hy, e⟩ := ht
        have := List.all_eq_true.1 hnd.1 y hy
        simp [e] at this))
    refine ⟨?_, ?_⟩
    · simp only [itemComps]
      cases ag with
      | true => exact ⟨h1, ih.1⟩
      | false => exact ⟨h1, ih.1⟩
    · simp only [List.flatMap_cons, itemCells]
      exact CRs_append _ _ _ _ _ hcr (by rw [List.length_map]; exact ih.2)
end
section
variable {P : Program} {E : Env} {ω : Nat → Lab} {m : Mc} {st : St}
theorem look_forgetAll (st : St) : (forget (fun _ => false) (fun k => decide (KEY ≤ k)) st).sl = [] := by
  have : ∀ (l : Slots), keepS (fun _ => false) l = [] := by
    intro l
    induction l with
    | nil => rfl
    | cons x l ih => obtain ⟨j, v⟩ := x; exact ih
  unfold forget
  split <;> exact this _
theorem rf_forgetAll (st : St) {k : Nat} (h : (lookR (forget (fun _ => false) (fun k => decide (KEY ≤ k)) st).rf k).isSome = true) : KEY ≤ k := by
  unfold forget at h
  split at h <;> simp only [lookR_keepS] at h <;> by_cases hk : KEY ≤ k <;> simp [hk] at h <;> exact hk
theorem finish_sound {fn : Func} {w : World} {T : Array Value} {G : Array Value} {rb rb0 : Nat → Nat} {rs : List RS} {res : SV} {gh : Slots} {rf' : Refs} (h : RR ω ⟨T, G, w, rb⟩ st) (hrb : ∀ k, KEY ≤ k → rb k = rb0 k)
    (hr : mRes P fn.results.toList rs = true) (hf : finish st rs = some (res, gh, rf')) :
    ∃ ω' v, (results fn T).run P w = .ok v w ∧ RR ω' ⟨#[], G, w, rb0⟩ ⟨[], rf', gh⟩ ∧ SVR ω' ⟨#[], G, w, rb0⟩ .res v res ∧ (∀ b, ω b = .frame → ω' b = .frame) := by
  unfold finish at hf
  split at hf
  · rename_i l0 h0
    split at hf
    · rename_i st1 h1
      obtain ⟨ω1, hR1, hfr⟩ := ownAll_sound h h1
      split at hf
      · rename_i l hg
        split at hf
        · rename_i hnd
          simp only [Bool.and_eq_true] at hnd
          obtain ⟨hnd, hloc⟩ := hnd
          simp only [Option.some.injEq, Prod.mk.injEq] at hf
          obtain ⟨rfl, rfl, rfl⟩ := hf
          obtain ⟨vs, hrun, hlen, hits⟩ := gather_run (P := P) hR1 _ rs l hr hg
          have hS := hR1.forget (p := fun _ => false) (q := fun k => decide (KEY ≤ k))
          generalize hSS : forget (fun _ => false) (fun k => decide (KEY ≤ k)) st1 = S at hS ⊢
          have hsl : S.sl = [] := by rw [← hSS]; exact look_forgetAll _
          have hrf : ∀ k, (lookR S.rf k).isSome = true → KEY ≤ k := fun k hk => by rw [← hSS] at hk; exact rf_forgetAll _ hk
          have hnos : ∀ s c, rootCell S (.slot s c) = .undef := fun s c => by simp [rootCell, hsl, look, SV.get]
          have hrefs : ∀ r k c, r = .ref k c → rootCell S r ≠ .undef → KEY ≤ k := fun r k c hr hne => by
            subst hr
            refine hrf k ?_
            simp only [rootCell] at hne
            cases hl : lookR S.rf k with
            | none => simp [hl] at hne
            | some _ => rfl
          have hlab : ∀ r q, rootCell S r ≠ .undef → resLab l (.at r q) = .at r q := fun r q hr => by
            cases r with
            | slot s c => exact absurd (hnos s c) hr
            | gho _ _ => rfl
            | res _ => rfl
            | ref k c =>
              have := hrefs _ k c rfl hr
              simp only [resLab]
              cases ho : resOff l 0 (.r k) with
              | none => rfl
              | some j => have := resOff_local hloc ho; omega
          have hmv := hS.r.move (m' := ⟨#[], G, w, rb0⟩) (ω' := fun b => resLab l (ω1 b)) hitKeys (fun s => .inr (by rw [hsl]; rfl)) rfl
            (fun r v c hc hne hk hcr => by
              refine hcr.keep (fun b x hx hb => ⟨hx, by simp only [hb]; rfl⟩) (fun _ q b x hx hb => ⟨hx, by simp only [hb]; exact hlab r q (by rw [hc]; exact hne)⟩) (fun k hkk => ?_) (fun p hp => ?_)
              · simp only [hitKeys, List.any_eq_false, decide_eq_true_eq] at hk
                exact (hrb k (by have := hk k hkk; omega)).symm
              · have hal := hS.al r p (by rw [hc]; exact hp)
                have hpn : rootCell S p.r ≠ .undef := by intro e; rw [e] at hal; simp [Cell.isOwn] at hal
                refine ⟨fun v0 h0 => ?_, fun q _ b x hx hb => ⟨hx, by simp only [hb]; exact hlab p.r q hpn⟩⟩
                cases hr : p.r with
                | slot s c' => rw [hr] at hpn; exact absurd (hnos s c') hpn
                | res c' => rw [hr] at h0; exact h0
                | gho j c' => rw [hr] at h0; exact h0
                | ref k c' =>
                  have hk := hrefs p.r k c' hr hpn
                  rw [hr] at h0
                  simp only [hdR] at h0 ⊢
                  rw [hrb k hk] at h0; exact h0)
            (fun k hk => ⟨(hrb k (hrf k hk)).symm, fun arr elem e1 e2 => ⟨e2, by simp only [e1]; rfl⟩⟩)
          obtain ⟨h2, h3⟩ := items_sound (T' := #[]) (rb' := rb0) (OFF := resOff l 0) (ω' := fun b => resLab l (ω1 b))
            (fun t j c b q ho hb => by simp only [hb]; exact resLab_at ho) (fun b hb => by simp only [hb]; rfl) l vs 0 hnd hlen hits (fun t x _ hx => hx)
          refine ⟨fun b => resLab l (ω1 b), resVal vs, results_run hrun, ⟨?_, ?_⟩, ?_, fun b hb => by simp only [(hfr b).2 hb]; rfl⟩
          · exact ⟨fun s => by have := hmv.sl s; simpa [St.filt, hsl, mapS] using this, hmv.gh, hmv.rf⟩
          · have := hS.al.filt (f := hitKeys) (fun c hc => by cases c <;> simp [Cell.isOwn] at hc; simp [hitKeys, Cell.keys])
            intro r p hp
            have e : ∀ r, rootCell (⟨[], (S.filt hitKeys).rf, (S.filt hitKeys).gh⟩ : St) r = rootCell (S.filt hitKeys) r := fun r => by
              cases r with
              | slot s c => simp [rootCell, St.filt, hsl, mapS, look, SV.get]
              | _ => rfl
            rw [e] at hp ⊢
            exact this r p hp
          · have hc : (itemComps l).length = vs.length := by
              rw [hlen]; clear hits hlab hmv h2 h3 hloc hnd hg hlen
              induction l with
              | nil => rfl
              | cons x l ih => obtain ⟨_, _, _⟩ := x; simp [itemComps, ih]
            generalize itemComps l = cl at h2 hc ⊢
            match vs, cl, h2, h3, hc with
            | [], [], h2, h3, _ => exact ⟨⟨#[], rfl, trivial⟩, by simpa [resVal, flatV] using h3⟩
            | [v], [(false, n)], h2, h3, _ =>
              simp only [compOk, and_true] at h2
              refine ⟨h2.1, ?_⟩
              simp only [List.flatMap_cons, List.flatMap_nil, List.append_nil] at h3
              rw [(flat1_single h2.1).1] at h3
              simp only [resVal, (flat1_single h2.1).2]; exact h3
            | [v], [(true, n)], h2, h3, _ =>
              simp only [compOk, and_true] at h2
              obtain ⟨arr, rfl, _⟩ := h2
              refine ⟨⟨arr, rfl⟩, ?_⟩
              simp only [List.flatMap_cons, List.flatMap_nil, List.append_nil, flat1] at h3
              simpa [resVal, flatV] using h3
            | v :: v' :: vs, x :: y :: cl, h2, h3, _ =>
              have e : resSh (x :: y :: cl) = .tup (x :: y :: cl) := by obtain ⟨b, n⟩ := x; cases b <;> rfl
              rw [e]
              exact ⟨⟨_, rfl, by simpa using h2⟩, by simpa [resVal, flatV] using h3⟩
            | [], _ :: _, _, _, h => simp at h
            | [_], [], _, _, h => simp at h
            | [_], _ :: _ :: _, _, _, h => simp at h
            | _ :: _ :: _, [], _, _, h => simp at h
            | _ :: _ :: _, [_], _, _, h => simp at h
        · simp at hf
      · simp at hf
    · simp at hf
  · simp at hf
def FinR (Q : SV → List SV → Refs → Prop) (r : SV × Slots × Refs) : Prop := ∃ args', r.2.1 = argSlots 0 args' ∧ Q r.1 args' r.2.2
theorem GoodR_of_W {f : FuncId} {fn : Func} {c : Code} {x : XCode} {rs : List RS} {args : List SV} {rf : Refs} {Q : SV → List SV → Refs → Prop} (hf : P.funcs[f]? = some fn) (hb : fn.body = some c)
    (hm : mCode P fn.ntmps c x = true) (hr : mRes P fn.results.toList rs = true) (hn : args.length ≤ fn.ntmps)
    (hW : W P x (finK rs (FinR Q)) ⟨paramSlots 0 args, rf, argSlots 0 args⟩) : GoodR P f args rf Q := by
  intro w ω rb vals hsz hR
  refine calls_of_wp hf hb ?_
  refine wp_mono (w_sound (m0 := ⟨#[], vals, w, rb⟩) (ω0 := ω) (N := fn.ntmps) x c hm _ _ _ _ ⟨rfl, by simp [hsz]; omega, ω, rb, begin_sound (m := ⟨#[], vals, w, rb⟩) (fun i hi => ?_) hR, Tr.refl _ _⟩ hW) ?_
  · rw [← hsz] at hi
    simp [Array.getElem?_append_left hi]
  · rintro e a w' ⟨xe, st, rfl, ⟨hd, hsz', ω1, rb1, hR1, hT1⟩, hK⟩
    have fin : Opt (finish st rs) (FinR Q) → a.defers = [] ∧ ∃ v, (results fn a.tmps).run P w' = .ok v w' ∧
        ∃ v' ω' res args' rf', Ending.returned v = .returned v' ∧ Q res args' rf' ∧ RR ω' ⟨#[], vals, w', rb⟩ ⟨[], rf', argSlots 0 args'⟩ ∧ (∀ r, r = Root.res → SVR ω' ⟨#[], vals, w', rb⟩ r v' res) ∧ Tr ω ⟨#[], vals, w, rb⟩ ω' ⟨#[], vals, w', rb⟩ := by
      rintro ⟨⟨res, gh, rf'⟩, hy, args', rfl, hq⟩
      obtain ⟨ω2, v, h0, h1, h2, h3⟩ := finish_sound (rb0 := rb) hR1 (fun k hk => hT1.rb k hk) hr hy
      refine ⟨hd, _, h0, _, ω2, res, args', rf', rfl, hq, h1, fun r hr => by rw [hr]; exact h2, ⟨hT1.os, hT1.tape, hT1.output, hT1.size, fun b x hx hb => ?_, rfl, rfl, fun _ _ => rfl⟩⟩
      obtain ⟨e1, e2⟩ := hT1.fr b x hx hb
      exact ⟨e1, h3 b e2⟩
    cases xe with
    | normal => exact fin hK
    | ret => exact fin hK
    | exit id => exact hK.elim
def mFun (P : Program) (fn : Func) (x : XCode) (rs : List RS) (n : Nat) : Bool :=
  (match fn.body with
    | some c => mCode P fn.ntmps c x
    | none => false) && mRes P fn.results.toList rs && decide (n ≤ fn.ntmps)
theorem GoodR_of {f : FuncId} {fn : Func} {x : XCode} {rs : List RS} {args : List SV} {rf : Refs} {Q : SV → List SV → Refs → Prop} {n : Nat} (hf : P.funcs[f]? = some fn)
    (hm : mFun P fn x rs n = true) (hn : args.length = n) (hW : W P x (finK rs (FinR Q)) ⟨paramSlots 0 args, rf, argSlots 0 args⟩) : GoodR P f args rf Q := by
  simp only [mFun, Bool.and_eq_true, decide_eq_true_eq] at hm
  obtain ⟨⟨h1, h2⟩, h3⟩ := hm
  split at h1
  · rename_i c hb
    exact GoodR_of_W hf hb h1 h2 (by omega) hW
  · simp at h1
theorem callable_of {f : FuncId} (h : callableB P f = true) : Callable P f := by
  unfold callableB at h
  split at h
  · rename_i fn hf
    simp only [Bool.and_eq_true, Bool.not_eq_true'] at h
    exact ⟨fn, hf, h.1, h.2⟩
  · simp at h
end
theorem Opt_put_if {c : Prop} [Decidable c] {st : St} {d : Nat} {x y : Option SV} {K : St → Prop} (hc : c) (h : Opt (putQ st d x) K) : Opt (putQ st d (if c then x else y)) K := by rw [if_pos hc]; exact h
theorem Opt_bind_if {c : Prop} [Decidable c] {st : St} {d : Nat} {α : Type} {x y : Option α} {g : α → Option SV} {K : St → Prop} (hc : c) (h : Opt (putQ st d (x.bind g)) K) : Opt (putQ st d ((if c then x else y).bind g)) K := by rw [if_pos hc]; exact h
theorem Opt_bind_ifn {c : Prop} [Decidable c] {st : St} {d : Nat} {α : Type} {x y : Option α} {g : α → Option SV} {K : St → Prop} (hc : ¬c) (h : Opt (putQ st d (y.bind g)) K) : Opt (putQ st d ((if c then x else y).bind g)) K := by rw [if_neg hc]; exact h
theorem WI_mono {P : Program} : ∀ (x : XL) (K1 K2 : St → Prop) (st : St), (∀ s, K1 s → K2 s) → WI P x K1 st → WI P x K2 st
  | .nil, _, _, _, h, hh => h _ hh
  | .op i r, K1, K2, st, h, hh => by
    have ih := fun s => WI_mono (P := P) r K1 K2 s h
    have h1 : ∀ s, goK P i (WI P r K1) s → goK P i (WI P r K2) s := fun s => goW_mono fun y => ih _
    have h2 : ∀ s, skipK i (WI P r K1) s → skipK i (WI P r K2) s := fun s => ih _
    simp only [WI] at hh ⊢
    split
    · rename_i e; rw [e] at hh; exact h1 _ hh
    · rename_i t want e
      rw [e] at hh
      simp only at hh
      split
      · rename_i b hb
        rw [hb] at hh
        cases b <;> cases want <;> simp only [Br, guardK] at hh ⊢ <;> first | exact h1 _ hh | exact h2 _ hh
      · rename_i hb
        split at hh
        · rename_i b hb'; exact absurd hb' (hb b)
        · exact hh
  | .sc t want blk ks d g c rhs kill r, K1, K2, st, h, hh => by
    have ih := fun s => WI_mono (P := P) r K1 K2 s h
    simp only [WI] at hh ⊢
    split
    · rename_i b hb
      rw [hb] at hh
      rcases hh with ⟨h1, h2, h3, x, h4, h5⟩ | ⟨h1, h2⟩
      · exact .inl ⟨h1, h2, h3, x, h4, ih _ h5⟩
      · exact .inr ⟨fun e => WI_mono (P := P) blk _ _ _ (fun s ⟨x, k1, k2, k3, k4⟩ => ⟨x, k1, k2, k3, ih _ k4⟩) (h1 e), fun e => ⟨(h2 e).1, (h2 e).2.1, ih _ (h2 e).2.2⟩⟩
    · rename_i hb
      split at hh
      · rename_i b hb'; exact absurd hb' (hb b)
      · exact hh
theorem dvGo_mono {P : Program} {x : XD} {d : Nat} {K1 K2 : St → Prop} {st : St} (h : ∀ s, K1 s → K2 s) (hh : dvGo P x d K1 st) : dvGo P x d K2 st := by
  unfold dvGo at hh ⊢
  split
  · rename_i cs e
    rw [e] at hh
    exact ⟨hh.1, hh.2.1, hh.2.2.1, hh.2.2.2.1, h _ hh.2.2.2.2⟩
  · rename_i f args refs e
    rw [e] at hh
    simp only at hh
    unfold dvCall at hh ⊢
    split
    · simp only at hh
      exact ⟨hh.1, CallW_mono (fun _ _ _ hk => ⟨hk.1, hk.2.1, hk.2.2.1, h _ hk.2.2.2⟩) hh.2⟩
    · rename_i hno
      split at hh
      · exact absurd rfl hno
      · exact hh
  · rename_i op hne hne2
    split at hh
    · rename_i cs e; exact absurd e (hne cs)
    · rename_i f args refs e; exact absurd e (hne2 f args refs)
    · exact Opt_mono (fun y hy => ⟨hy.1, hy.2.1, h _ hy.2.2⟩) hh
theorem dvEff_mono {P : Program} {na : List Nat} {d k : Nat} {K1 K2 : St → Prop} {st a : St} {f : FuncId} {args : List (Bool × SV)} (h : ∀ s, K1 s → K2 s) (hh : dvEff P na d k K1 st a f args) : dvEff P na d k K2 st a f args := by
  obtain ⟨h1, h2, h3⟩ := hh
  refine ⟨h1, h2, ?_⟩
  unfold dvEr at h3 ⊢
  split
  · rename_i cs e
    rw [e] at h3
    refine CallR_mono (fun res a r hk => ⟨hk.1, ?_⟩) h3
    have h4 := hk.2
    unfold dvEk2 at h4 ⊢
    split
    · rename_i cs2 e2
      rw [e2] at h4
      exact ⟨h4.1, h4.2.1, h4.2.2.1, h _ h4.2.2.2⟩
    · rename_i e2
      rw [e2] at h4; exact h4
  · rename_i e
    rw [e] at h3; exact h3
theorem dvEf_mono {P : Program} {x : XD} {d k : Nat} {K1 K2 : St → Prop} {st : St} (h : ∀ s, K1 s → K2 s) : ∀ {g : Option (Nat × Bool)} {op : XOp}, dvEf P x d k K1 st g op → dvEf P x d k K2 st g op := by
  intro g op hh
  unfold dvEf at hh ⊢
  split
  · exact ⟨hh.1, dvEff_mono h hh.2⟩
  · rename_i n1
    split at hh
    · rename_i f args k' ; exact absurd rfl (n1 f args k' rfl)
    · exact hh
theorem WF_mono {fs us : List XD} {ords : List (List Nat)} {K1 K2 : St → Prop} {st : St} (h : ∀ s, K1 s → K2 s) (hh : WF fs us ords K1 st) : WF fs us ords K2 st := by
  unfold WF at hh ⊢
  generalize fs ++ us = G at hh ⊢
  cases G with
  | nil => exact h _ hh
  | cons x xs => exact Opt_mono (fun y hy => ⟨hy.1, h _ hy.2⟩) hh
theorem DV_mono {P : Program} : ∀ (xs : List XD) (K1 K2 : St → Prop) (st : St), (∀ s, K1 s → K2 s) → DV P xs K1 st → DV P xs K2 st
  | [], _, _, st, h, hh => h st hh
  | x :: xs, K1, K2, st, h, hh => by
    have ih := fun s => DV_mono (P := P) xs K1 K2 s h
    simp only [DV] at hh ⊢
    split
    · rename_i d hd
      rw [hd] at hh
      refine ⟨hh.1, ?_⟩
      have h2 := hh.2
      cases hef : x.ef with
      | some k => rw [hef] at h2; exact dvEf_mono ih h2
      | none =>
      rw [hef] at h2
      simp only at h2 ⊢
      split
      · rename_i hg; rw [hg] at h2; exact dvGo_mono ih h2
      · rename_i t want hg
        rw [hg] at h2
        simp only at h2
        split
        · rename_i b hs hc
          rw [hs, hc] at h2
          simp only at h2
          cases b <;> cases want <;> simp only [Br, dvG] at h2 ⊢ <;> first | exact dvGo_mono ih h2 | exact ih _ h2
        · rename_i hs hc
          rw [hs, hc] at h2
          exact ih _ h2
        · rename_i n1 n2
          split at h2
          · rename_i b hs hc; exact absurd hc (n1 b hs)
          · rename_i hs hc; exact absurd hc (n2 hs)
          · exact h2
    · rename_i hd
      rw [hd] at hh; exact hh
theorem W_mono {P : Program} : ∀ (x : XCode) (K1 K2 : XExit → St → Prop) (st : St), (∀ e s, K1 e s → K2 e s) → W P x K1 st → W P x K2 st
  | .skip, _, _, _, h, hh => h _ _ hh
  | .ret, _, _, _, h, hh => h _ _ hh
  | .exit _, _, _, _, h, hh => h _ _ hh
  | .ops k l, _, _, _, h, hh => WI_mono l _ _ _ (fun s => h _ _) hh
  | .seq a b, K1, K2, st, h, hh => W_mono a _ _ st (fun e s hs => by
      cases e with
      | normal => exact W_mono b _ _ s h hs
      | exit _ => exact h _ _ hs
      | ret => exact h _ _ hs) hh
  | .cond x a b, K1, K2, st, h, hh => by
    simp only [W] at hh ⊢
    split
    · rename_i t ht
      rw [ht] at hh
      cases t <;> simp only [Br, condK] at hh ⊢
      · exact W_mono b _ _ st h hh
      · exact W_mono a _ _ st h hh
    · rename_i hb
      split at hh
      · rename_i b hb'; exact absurd hb' (hb b)
      · exact hh
  | .block id a, K1, K2, st, h, hh => W_mono a _ _ st (fun e s hs => by
      cases e with
      | normal => exact h _ _ hs
      | exit id' =>
        simp only [blkK] at hs ⊢
        split
        · rename_i e; rw [if_pos e] at hs; exact h _ _ hs
        · rename_i e; rw [if_neg e] at hs; exact h _ _ hs
      | ret => exact h _ _ hs) hh
  | .loop a, K1, K2, st, h, hh => by
    obtain ⟨I, h0, hr⟩ := hh
    refine ⟨I, h0, fun n s hs => W_mono a _ _ s (fun e s hs => ?_) (hr n s hs)⟩
    cases e with
    | normal => exact hs
    | exit _ => exact h _ _ hs
    | ret => exact h _ _ hs
  | .any pm vs fs us ords ts, K1, K2, st, h, hh => DV_mono (vs ++ fs) _ _ st (fun s => WF_mono fun s => WI_mono (opsL ts) _ _ s (fun s' => h _ s')) hh
  | .bar pm vs bs us ords ts, K1, K2, st, h, hh => DV_mono vs _ _ st (fun s => WI_mono (opsL bs) _ _ s fun s => WF_mono fun s => WI_mono (opsL ts) _ _ s (fun s' => h _ s')) hh
  | .keep _ _ a, K1, K2, st, h, hh => W_mono a _ _ _ h hh
section
variable {P : Program}
theorem Good_of {f : FuncId} {fn : Func} {x : XCode} {rs : List RS} {args args' : List SV} {rf rf' : Refs} {res : SV} {n : Nat} (hf : P.funcs[f]? = some fn)
    (hm : mFun P fn x rs n = true) (hn : args.length = n) (hW : W P x (finK rs (Fin res args' rf')) ⟨paramSlots 0 args, rf, argSlots 0 args⟩) : Good P f args rf res args' rf' := by
  have h := GoodR_of (Q := fun r a g => r = res ∧ a = args' ∧ g = rf') hf hm hn (W_mono x _ _ _ (fun e s hs => by
    cases e with
    | exit _ => exact hs
    | normal => obtain ⟨y, hy, e⟩ := hs; exact ⟨y, hy, args', by rw [e], by rw [e], rfl, by rw [e]⟩
    | ret => obtain ⟨y, hy, e⟩ := hs; exact ⟨y, hy, args', by rw [e], by rw [e], rfl, by rw [e]⟩) hW)
  intro w ω rb vals h1 h2
  refine Calls.mono (h w ω rb vals h1 h2) ?_
  rintro e w' ⟨v, ω', r, a, g, e1, ⟨rfl, rfl, rfl⟩, e3⟩
  exact ⟨v, ω', e1, e3⟩
def fnOk (P : Program) (f : FuncId) (x : XCode) (rs : List RS) (n : Nat) : Bool := match P.funcs[f]? with
  | some fn => callableB P f && mFun P fn x rs n
  | none => false
theorem F_of {f : FuncId} {x : XCode} {rs : List RS} {args args' : List SV} {rf rf' : Refs} {res : SV} {n : Nat} {pre : Prop}
    (hm : fnOk P f x rs n = true) (hn : args.length = n) (hW : pre → W P x (finK rs (Fin res args' rf')) ⟨paramSlots 0 args, rf, argSlots 0 args⟩) : Fc P f args rf pre res args' rf' := by
  unfold fnOk at hm
  split at hm
  · rename_i fn hf
    simp only [Bool.and_eq_true] at hm
    exact ⟨fun h => ⟨callable_of hm.1, Good_of hf hm.2 hn (hW h)⟩⟩
  · simp at hm
theorem FR_of {f : FuncId} {x : XCode} {rs : List RS} {args : List SV} {rf : Refs} {n : Nat} {pre : Prop} {α : Type} {I : α → Prop} {res : α → SV} {args' : α → List SV} {rf' : α → Refs}
    (hm : fnOk P f x rs n = true) (hn : args.length = n) (hW : pre → W P x (finK rs (FinR fun r a g => ∃ x, I x ∧ r = res x ∧ a = args' x ∧ g = rf' x)) ⟨paramSlots 0 args, rf, argSlots 0 args⟩) : FcR P f args rf pre α I res args' rf' := by
  unfold fnOk at hm
  split at hm
  · rename_i fn hf
    simp only [Bool.and_eq_true] at hm
    exact ⟨fun h => ⟨callable_of hm.1, GoodR_of hf hm.2 hn (hW h)⟩⟩
  · simp at hm
end
theorem W_cut {P : Program} {a b : XCode} {K : XExit → St → Prop} {st : St} (M : St → Prop) (h : W P a (thenK M K) st) (h2 : ∀ s, M s → W P b K s) : W P (.seq a b) K st := by
  simp only [W]
  refine W_mono a _ _ st (fun e s hs => ?_) h
  cases e with
  | normal => exact h2 s hs
  | exit _ => exact hs
  | ret => exact hs
def LoopJ {α : Type} (S : α → St) (I : α → Prop) (m : α → Nat) (n : Nat) (s : St) : Prop := ∃ n', n' < n ∧ ∃ b, s = S b ∧ I b ∧ m b = n'
theorem LoopJ_of {α : Type} {S : α → St} {I : α → Prop} {m : α → Nat} {n : Nat} {s : St} (b : α) (hs : s = S b) (hI : I b) (hm : m b < n) : LoopJ S I m n s := ⟨m b, hm, b, hs, hI, rfl⟩
theorem LoopW_of {α : Type} (S : α → St) (I : α → Prop) (m : α → Nat) (a0 : α) {P : Program} {x : XCode} {K : XExit → St → Prop} {st : St} (h0 : st = S a0) (hI : I a0)
    (h : ∀ a, I a → W P x (loopK (LoopJ S I m (m a)) K) (S a)) : LoopW (W P x) K st :=
  ⟨fun n s => ∃ b, s = S b ∧ I b ∧ m b = n, ⟨m a0, a0, h0, hI, rfl⟩, fun n s hs => by
    obtain ⟨b, rfl, hIb, rfl⟩ := hs
    exact h b hIb⟩
def keepF (sl rf : List Nat) (st : St) : St := forget (fun s => sl.contains s) (fun k => KEY ≤ k || rf.contains k) st
def LoopQ {α : Type} (sl rf : List Nat) (S : α → St) (I : α → Prop) (m : α → Nat) (n : Nat) (s : St) : Prop := ∃ n', n' < n ∧ ∃ b, keepF sl rf s = S b ∧ I b ∧ m b = n'
theorem LoopQ_of {α : Type} {sl rf : List Nat} {S : α → St} {I : α → Prop} {m : α → Nat} {n : Nat} {s : St} (b : α) (hs : keepF sl rf s = S b) (hI : I b) (hm : m b < n) : LoopQ sl rf S I m n s := ⟨m b, hm, b, hs, hI, rfl⟩
theorem LoopK_of {α : Type} (S : α → St) (I : α → Prop) (m : α → Nat) (a0 : α) {P : Program} {sl rf : List Nat} {x : XCode} {K : XExit → St → Prop} {st : St} (h0 : keepF sl rf st = S a0) (hI : I a0)
    (h : ∀ a, I a → W P x (loopK (LoopQ sl rf S I m (m a)) K) (S a)) : LoopW (W P (.keep sl rf x)) K st :=
  ⟨fun n s => ∃ b, keepF sl rf s = S b ∧ I b ∧ m b = n, ⟨m a0, a0, h0, hI, rfl⟩, fun n s hs => by
    obtain ⟨b, hb, hIb, rfl⟩ := hs
    show W P x _ (keepF sl rf s)
    rw [hb]
    exact h b hIb⟩
def SqC (n : Nat) (a b : XCode) : XCode := .seq a b
def CutQ {α : Type} (sl rf : List Nat) (S : α → St) (I : α → Prop) (s : St) : Prop := ∃ b, keepF sl rf s = S b ∧ I b
theorem CutQ_of {α : Type} {sl rf : List Nat} {S : α → St} {I : α → Prop} {s : St} (b : α) (hs : keepF sl rf s = S b) (hI : I b) : CutQ sl rf S I s := ⟨b, hs, hI⟩
@[congr] theorem CutQ_congr {α : Type} {sl rf : List Nat} {S : α → St} {I : α → Prop} {s s' : St} (h : s = s') : CutQ sl rf S I s = CutQ sl rf S I s' := by rw [h]
theorem CutK_of {α : Type} (n : Nat) (S : α → St) (I : α → Prop) {P : Program} {sl rf : List Nat} {a b : XCode} {K : XExit → St → Prop} {st : St} (h : W P a (thenK (CutQ sl rf S I) K) st)
    (h2 : ∀ p, I p → W P b K (S p)) : W P (SqC n a (.keep sl rf b)) K st := by
  refine W_cut (CutQ sl rf S I) h ?_
  rintro s ⟨p, hs, hI⟩
  show W P b K (keepF sl rf s)
  rw [hs]
  exact h2 p hI
abbrev i64 (n : Int) : SV := ⟨.one, [.int .i64 n]⟩
abbrev bl (b : Bool) : SV := ⟨.one, [.bool b]⟩
abbrev st1 (s : ByteArray) : SV := ⟨.one, [.str s]⟩
theorem ScW_of {want b : Bool} {blk : (St → Prop) → St → Prop} {t : Nat} {ks : List Nat} {d : Nat} {g : Option (Nat × Bool)} {c rhs : XO} {K : St → Prop} {st : St} (x : Bool)
    (h1 : putSlot st t ⟨.one, [.bool b]⟩ = st) (h2 : (evX (killSt ks st) c).c1 = .bool b) (h3 : gateOk g (killSt ks st))
    (h4 : b = want → blk (scEnd rhs x ks (killSt ks (putSlot st t ⟨.one, [.bool want]⟩))) (putSlot st t ⟨.one, [.bool want]⟩))
    (h5 : K (putSlot (killSt ks st) d ⟨.one, [.bool (scVal want b x)]⟩)) : ScW want b blk t ks d g c rhs K st := .inl ⟨h1, h2, h3, x, h4, h5⟩
theorem ScW_ofE {want b : Bool} {blk : (St → Prop) → St → Prop} {t : Nat} {ks : List Nat} {d : Nat} {g : Option (Nat × Bool)} {c rhs : XO} {K : St → Prop} {st : St}
    (h1 : b = want → blk (scEndE want ks d g c rhs K) (putSlot st t ⟨.one, [.bool want]⟩)) (h2 : (!b) = want → scEndD b ks d g c K st) : ScW want b blk t ks d g c rhs K st := .inr ⟨h1, h2⟩
theorem scEndE_of {want x : Bool} {ks : List Nat} {d : Nat} {g : Option (Nat × Bool)} {c rhs : XO} {K : St → Prop} {st1 : St} (h1 : (evX st1 rhs).c1 = .bool x) (h2 : (evX (killSt ks st1) c).c1 = .bool want) (h3 : gateOk g (killSt ks st1))
    (h4 : K (putSlot (killSt ks st1) d ⟨.one, [.bool x]⟩)) : scEndE want ks d g c rhs K st1 := ⟨x, h1, h2, h3, h4⟩
theorem scEndD_of {b : Bool} {ks : List Nat} {d : Nat} {g : Option (Nat × Bool)} {c : XO} {K : St → Prop} {st : St} (h1 : (evX (killSt ks st) c).c1 = .bool b) (h3 : gateOk g (killSt ks st))
    (h4 : K (putSlot (killSt ks st) d ⟨.one, [.bool b]⟩)) : scEndD b ks d g c K st := ⟨h1, h3, h4⟩
section
variable {P : Program} {K : St → Prop} {L : XExit → St → Prop} {st : St}
@[go_sem] theorem putQ_some {d : Nat} {x : SV} : putQ st d (some x) = some (putSlot st d x) := rfl
@[go_sem] theorem putQ_none {d : Nat} : putQ st d none = none := rfl
@[go_sem] theorem putA_some {d : Nat} {x : List Cell} : putA st d (some x) = some (putSlot st d ⟨.agg, x⟩) := rfl
@[go_sem] theorem putA_none {d : Nat} : putA st d none = none := rfl
@[go_sem ↓] theorem W_skip : W P .skip L st = L .normal st := rfl
@[go_sem ↓] theorem W_ret : W P .ret L st = L .ret st := rfl
@[go_sem ↓] theorem W_exit {id : Nat} : W P (.exit id) L st = L (.exit id) st := rfl
@[go_sem ↓] theorem W_ops {k : List Nat} {l : XL} : W P (.ops k l) L st = WI P l (killK k (L .normal)) st := rfl
@[go_sem ↓] theorem W_seq {a b : XCode} : W P (.seq a b) L st = W P a (thenK (W P b L) L) st := rfl
def condW (A B : St → Prop) (st : St) : Cell → Prop
  | .bool t => Br t (condK A B st)
  | _ => False
@[go_sem ↓] theorem W_cond {x : XO} {a b : XCode} : W P (.cond x a b) L st = condW (W P a L) (W P b L) st (evX st x).c1 := rfl
@[go_sem ↓] theorem condW_bool {A B : St → Prop} {t : Bool} : condW A B st (.bool t) = Br t (condK A B st) := rfl
@[go_sem ↓] theorem W_block {id : Nat} {a : XCode} : W P (.block id a) L st = W P a (blkK id L) st := rfl
@[go_sem ↓] theorem W_loop {a : XCode} : W P (.loop a) L st = LoopW (W P a) L st := rfl
theorem DV_append {ys : List XD} {K : St → Prop} : ∀ {xs : List XD} {st : St}, DV P (xs ++ ys) K st = DV P xs (DV P ys K) st := by
  intro xs
  induction xs with
  | nil => intro st; rfl
  | cons x xs ih =>
    intro st
    have ih' : DV P (xs ++ ys) K = DV P xs (DV P ys K) := funext fun s => ih
    simp only [List.cons_append, DV, ih']
@[go_sem ↓] theorem W_bar {pm : List Nat} {vs bs us : List XD} {ords : List (List Nat)} {ts : List XD} : W P (.bar pm vs bs us ords ts) L st = DV P vs (WI P (opsL bs) (WF [] us ords (WI P (opsL ts) (L .normal)))) st := rfl
@[go_sem ↓] theorem W_any {pm : List Nat} {vs fs us : List XD} {ords : List (List Nat)} {ts : List XD} : W P (.any pm vs fs us ords ts) L st = DV P vs (DV P fs (WF fs us ords (WI P (opsL ts) (L .normal)))) st := DV_append
def WFe (G : List XD) (ords : List (List Nat)) (K : St → Prop) (s0 s2 : St) : Prop := sameS G s0 s2 ords ∧ K s2
def WFk (fs us : List XD) (ords : List (List Nat)) (K : St → Prop) (s0 : St) : Prop := Opt (runS (fs ++ us) s0) (WFe (fs ++ us) ords K s0)
def eqS (s2 s : St) : Prop := s = s2
@[go_sem ↓] theorem WF_nil {ords : List (List Nat)} {K : St → Prop} : WF [] [] ords K st = K st := rfl
@[go_sem ↓] theorem WF_f {x : XD} {fs us : List XD} {ords : List (List Nat)} {K : St → Prop} : WF (x :: fs) us ords K st = WFk (x :: fs) us ords K (dropSl (dstsD (x :: fs)) st) := rfl
@[go_sem ↓] theorem WF_u {x : XD} {us : List XD} {ords : List (List Nat)} {K : St → Prop} : WF [] (x :: us) ords K st = WFk [] (x :: us) ords K st := rfl
@[go_sem ↓] theorem WFk_eq {fs us : List XD} {ords : List (List Nat)} {K : St → Prop} : WFk fs us ords K st = Opt (runS (fs ++ us) st) (WFe (fs ++ us) ords K st) := rfl
@[go_sem ↓] theorem WFe_eq {G : List XD} {ords : List (List Nat)} {K : St → Prop} {s2 : St} : WFe G ords K st s2 = (sameS G st s2 ords ∧ K s2) := rfl
@[go_sem ↓] theorem runS_nil : runS [] st = some st := rfl
@[go_sem ↓] theorem runS_cons {d : Option Nat} {o : XOp} {kl cl dr na : List Nat} {e : Option Nat} {xs : List XD} : runS (⟨⟨d, none, o, kl⟩, cl, dr, na, e⟩ :: xs) st = (step noE st d o).bind (runS xs) := rfl
@[go_sem ↓] theorem sameS_nil {G : List XD} {s2 : St} : sameS G st s2 [] = True := rfl
@[go_sem ↓] theorem sameS_cons {G : List XD} {s2 : St} {p : List Nat} {ps : List (List Nat)} : sameS G st s2 (p :: ps) = (Opt (runS (pick G p) st) (eqS s2) ∧ sameS G st s2 ps) := by
  simp [sameS, Opt, eqS]
@[go_sem ↓] theorem eqS_eq {s2 : St} : eqS s2 st = (st = s2) := rfl
@[go_sem ↓] theorem pick_nil {G : List XD} : pick G [] = [] := rfl
def pickC (G : List XD) (rs : List Nat) : Option XD → List XD
  | some x => x :: pick G rs
  | none => pick G rs
@[go_sem ↓] theorem pickC_some {G : List XD} {rs : List Nat} {x : XD} : pickC G rs (some x) = x :: pick G rs := rfl
@[go_sem ↓] theorem pick_cons {G : List XD} {r : Nat} {rs : List Nat} : pick G (r :: rs) = pickC G rs (G[r]?) := by unfold pickC; rfl
@[go_sem ↓] theorem dstsD_nil : dstsD [] = [] := rfl
@[go_sem ↓] theorem dstsD_cons {d : Nat} {g : Option (Nat × Bool)} {o : XOp} {kl cl dr na : List Nat} {e : Option Nat} {xs : List XD} : dstsD (⟨⟨some d, g, o, kl⟩, cl, dr, na, e⟩ :: xs) = d :: dstsD xs := rfl
@[go_sem ↓] theorem dropSl_nil {st : St} : dropSl [] st = st := rfl
@[go_sem ↓] theorem dropSl_cons {d : Nat} {l : List Nat} {st : St} : dropSl (d :: l) st = ⟨keepS (fun t => !(d :: l).contains t) st.sl, st.rf, st.gh⟩ := rfl
@[go_sem ↓] theorem backCs_nil {cs : List Cell} : backCs cs [] = [] := by cases cs <;> rfl
@[go_sem ↓] theorem backCs_cons {c c' : Cell} {cs cs' : List Cell} : backCs (c :: cs) (c' :: cs') = backC c c' :: backCs cs cs' := rfl
@[go_sem ↓] theorem backC_int {c : Cell} {k : IntKind} {n : Int} : backC c (.int k n) = .int k n := by cases c <;> rfl
@[go_sem ↓] theorem backC_bool {c : Cell} {b : Bool} : backC c (.bool b) = .bool b := by cases c <;> rfl
@[go_sem ↓] theorem backC_str {c : Cell} {s : ByteArray} : backC c (.str s) = .str s := by cases c <;> rfl
@[go_sem ↓] theorem backC_own {c : Cell} {sz : Nat} {rows : List (List D)} : backC c (.own sz rows) = .own sz rows := by cases c <;> rfl
@[go_sem ↓] theorem backC_ro {c : Cell} {sz : Nat} {rows : List (List D)} : backC c (.ro sz rows) = .undef := by cases c <;> rfl
@[go_sem ↓] theorem backC_un {c : Cell} : backC c .undef = .undef := by cases c <;> rfl
@[go_sem ↓] theorem backC_rov {u : Value} {sz sz' : Nat} {rows rows' : List (List D)} : backC (.rov u sz rows) (.rov u sz' rows') = .rov u sz rows := if_pos rfl
@[go_sem ↓] theorem DV_nil : DV P [] K st = K st := rfl
@[go_sem ↓] theorem DV_cons {d : Nat} {o : XOp} {kl cl dr na : List Nat} {xs : List XD} : DV P (⟨⟨some d, none, o, kl⟩, cl, dr, na, none⟩ :: xs) K st = ((look st.sl d).absent = true ∧ dvGo P ⟨⟨some d, none, o, kl⟩, cl, dr, na, none⟩ d (DV P xs K) st) := rfl
@[go_sem ↓] theorem DV_conse {d k k' : Nat} {f : FuncId} {args : List (Bool × XO)} {kl cl dr na : List Nat} {xs : List XD} : DV P (⟨⟨some d, none, .call f args [k], kl⟩, cl, dr, na, some k'⟩ :: xs) K st =
    ((look st.sl d).absent = true ∧ k = k' ∧ dvEff P na d k' (DV P xs K) st (dropOnly dr st) f (evArgs (dropOnly dr st) args)) := rfl
@[go_sem ↓] theorem dvEff_eq {na : List Nat} {d k : Nat} {s : St} {f : FuncId} {args : List (Bool × SV)} : dvEff P na d k K st s f args = (argsOkE k s args = true ∧ noHitE k st ∧ dvEr P na d k K st f (callArgs s [] [k] args) (lookR s.rf k)) := rfl
@[go_sem ↓] theorem dvEr_some {na : List Nat} {d k : Nat} {f : FuncId} {args : List SV} {cs : List Cell} : dvEr P na d k K st f args (some cs) = CallR P f args [(KEY, cs.map refCell)] (dvEk cs na d k K st) := rfl
@[go_sem ↓] theorem dvEk_eq {cs0 : List Cell} {na : List Nat} {d k : Nat} {res : SV} {args' : List SV} {rf' : Refs} : dvEk cs0 na d k K st res args' rf' = (res.fresh = true ∧ dvEk2 cs0 na d k K st res (lookR rf' KEY)) := rfl
@[go_sem ↓] theorem dvEk2_some {cs0 : List Cell} {na : List Nat} {d k : Nat} {res : SV} {cs : List Cell} : dvEk2 cs0 na d k K st res (some cs) = (res.known = true ∧ naV na res ∧ (backCs cs0 cs).all Cell.flat = true ∧ K ⟨putS st.sl d res, putR st.rf k (backCs cs0 cs), st.gh⟩) := rfl
def dvGd (P : Program) (x : XD) (d : Nat) (want : Bool) (K : St → Prop) (st : St) : Sh → List Cell → Prop
  | .one, [.bool b] => Br b (dvG want (dvGo P x d K st) (dvSkip d K st))
  | .tup [], [] => dvSkip d K st
  | _, _ => False
@[go_sem ↓] theorem DV_consg {d t : Nat} {want : Bool} {o : XOp} {kl cl dr na : List Nat} {xs : List XD} : DV P (⟨⟨some d, some (t, want), o, kl⟩, cl, dr, na, none⟩ :: xs) K st =
    ((look st.sl d).absent = true ∧ dvGd P ⟨⟨some d, some (t, want), o, kl⟩, cl, dr, na, none⟩ d want (DV P xs K) st (look (dropOnly dr st).sl t).sh (look (dropOnly dr st).sl t).cs) := rfl
@[go_sem ↓] theorem dvGd_bool {x : XD} {d : Nat} {want b : Bool} : dvGd P x d want K st .one [.bool b] = Br b (dvG want (dvGo P x d K st) (dvSkip d K st)) := rfl
@[go_sem ↓] theorem dvGd_un {x : XD} {d : Nat} {want : Bool} : dvGd P x d want K st (.tup []) [] = dvSkip d K st := rfl
@[go_sem ↓] theorem dvPut_eq {na : List Nat} {d : Nat} {y : SV} : dvPut na d K st y = (y.known = true ∧ naV na y ∧ K ⟨putS st.sl d y, st.rf, st.gh⟩) := rfl
@[go_sem ↓] theorem dvSkip_eq {d : Nat} : dvSkip d K st = K ⟨putS st.sl d ⟨.tup [], []⟩, st.rf, st.gh⟩ := rfl
@[go_sem ↓] theorem dvG_tt {A B : Prop} : dvG true A B true = A := rfl
@[go_sem ↓] theorem dvG_tf {A B : Prop} : dvG true A B false = B := rfl
@[go_sem ↓] theorem dvG_ft {A B : Prop} : dvG false A B true = B := rfl
@[go_sem ↓] theorem dvG_ff {A B : Prop} : dvG false A B false = A := rfl
@[go_sem ↓] theorem W_keep {sl rf : List Nat} {a : XCode} : W P (.keep sl rf a) L st = W P a L (forget (fun s => sl.contains s) (fun k => KEY ≤ k || rf.contains k) st) := rfl
@[go_sem ↓] theorem WI_nil : WI P .nil K st = K st := rfl
def opW (P : Program) (i : XI) (J K : St → Prop) (st : St) : Option (Nat × Bool) → Prop
  | none => goK P i K st
  | some (t, want) => match (look st.sl t).c1 with
    | .bool b => Br b (guardK want (goK P i K) (skipK i K) st)
    | _ => False
theorem WI_op0 {i : XI} {is : XL} : WI P (.op i is) K st = opW P i K (WI P is K) st i.guard := rfl
@[go_sem ↓] theorem WI_op {d : Option Nat} {o : XOp} {kl : List Nat} {is : XL} : WI P (.op ⟨d, none, o, kl⟩ is) K st = goW P st d (killK kl (WI P is K)) o := rfl
def gdW (P : Program) (i : XI) (want : Bool) (K : St → Prop) (st : St) : Cell → Prop
  | .bool b => Br b (guardK want (goK P i K) (skipK i K) st)
  | _ => False
@[go_sem ↓] theorem WI_opg {d : Option Nat} {t : Nat} {want : Bool} {o : XOp} {kl : List Nat} {is : XL} : WI P (.op ⟨d, some (t, want), o, kl⟩ is) K st = gdW P ⟨d, some (t, want), o, kl⟩ want (WI P is K) st (look st.sl t).c1 := rfl
@[go_sem ↓] theorem gdW_bool {i : XI} {want b : Bool} : gdW P i want K st (.bool b) = Br b (guardK want (goK P i K) (skipK i K) st) := rfl
def scW (P : Program) (want : Bool) (blk : XL) (t : Nat) (ks : List Nat) (d : Nat) (g : Option (Nat × Bool)) (c rhs : XO) (K : St → Prop) (st : St) : Cell → Prop
  | .bool b => ScW want b (WI P blk) t ks d g c rhs K st
  | _ => False
@[go_sem ↓] theorem WI_sc {t : Nat} {want : Bool} {blk : XL} {ks : List Nat} {d : Nat} {g : Option (Nat × Bool)} {c rhs : XO} {kl : List Nat} {is : XL} :
    WI P (.sc t want blk ks d g c rhs kl is) K st = scW P want blk t ks d g c rhs (killK kl (WI P is K)) st (look st.sl t).c1 := rfl
@[go_sem ↓] theorem scW_bool {want b : Bool} {blk : XL} {t : Nat} {ks : List Nat} {d : Nat} {g : Option (Nat × Bool)} {c rhs : XO} : scW P want blk t ks d g c rhs K st (.bool b) = ScW want b (WI P blk) t ks d g c rhs K st := rfl
@[go_sem ↓] theorem goK_eq {i : XI} : goK P i K st = goW P st i.dst (killK i.kill K) i.op := rfl
@[go_sem ↓] theorem skipK_eq {i : XI} : skipK i K st = K (killR i.kill (skipDst st i.dst)) := rfl
@[go_sem ↓] theorem killK_eq {l : List Nat} : killK l K st = K (killR l st) := rfl
variable {f : St → Prop}
@[go_sem ↓] theorem thenK_n : thenK f L .normal st = f st := rfl
@[go_sem ↓] theorem thenK_e {id : Nat} : thenK f L (.exit id) st = L (.exit id) st := rfl
@[go_sem ↓] theorem thenK_r : thenK f L .ret st = L .ret st := rfl
@[go_sem ↓] theorem blkK_n {id : Nat} : blkK id L .normal st = L .normal st := rfl
@[go_sem ↓] theorem blkK_e {id id' : Nat} : blkK id L (.exit id') st = if id' = id then L .normal st else L (.exit id') st := rfl
@[go_sem ↓] theorem blkK_r {id : Nat} : blkK id L .ret st = L .ret st := rfl
variable {I : St → Prop}
@[go_sem ↓] theorem loopK_n : loopK I L .normal st = I st := rfl
@[go_sem ↓] theorem loopK_e {id : Nat} : loopK I L (.exit id) st = L (.exit id) st := rfl
@[go_sem ↓] theorem loopK_r : loopK I L .ret st = L .ret st := rfl
variable {A B : St → Prop}
@[go_sem ↓] theorem condK_t : condK A B st true = A st := rfl
@[go_sem ↓] theorem condK_f : condK A B st false = B st := rfl
@[go_sem ↓] theorem guardK_tt : guardK true A B st true = A st := rfl
@[go_sem ↓] theorem guardK_tf : guardK true A B st false = B st := rfl
@[go_sem ↓] theorem guardK_ft : guardK false A B st true = B st := rfl
@[go_sem ↓] theorem guardK_ff : guardK false A B st false = A st := rfl
@[go_sem ↓] theorem goW_eq {d : Option Nat} {op : XOp} : goW P st d K op = (match op with
  | .call f args refs => callW P st d f (evArgs st args) refs K
  | .callv x args refs => callvW P st d (evArgs st args) refs K (evX st x).c1
  | .isnil x => nilW st K d (rowsOf st (evX st x).c1)
  | .cnew f x => cnewW P st f K (evX st x) d
  | op => Opt (step noE st d op) K) := rfl
@[go_sem ↓] theorem nilW_eq {d sz : Nat} {rows : List (List D)} : nilW st K (some d) (some (sz, rows)) = (∀ b, (rows ≠ [] → b = false) → K (putSlot st d ⟨.one, [.bool b]⟩)) := rfl
@[go_sem ↓] theorem cnewW_eq {d : Nat} {f : FuncId} {y : SV} : cnewW P st f K y (some d) = CallN P f y (cnewK st d K) := rfl
@[go_sem ↓] theorem cnewK_eq {d : Nat} {cs : List Cell} : cnewK st d K cs = K (allocSt st d cs) := rfl
@[go_sem ↓] theorem callvW_fn {d : Option Nat} {f : FuncId} {fi ca : List Cell} {args : List (Bool × SV)} {refs : List Nat} : callvW P st d args refs K (.fn (.func f) fi ca) = callW P st d f (evCaps fi ++ args ++ evCaps ca) refs K := rfl
@[go_sem] theorem callW_eq {d : Option Nat} {f : FuncId} {args : List (Bool × SV)} {refs : List Nat} : callW P st d f args refs K = callLs P st d f args refs K (allLents st 0 args) := rfl
@[go_sem ↓] theorem callLs_eq {d : Option Nat} {f : FuncId} {args : List (Bool × SV)} {refs : List Nat} {L' : List (Root × Nat × Nat)} : callLs P st d f args refs K L' = (((lentsOk L' refs && cellsNodup L') && args.all (fun x => x.2.known)) = true ∧ callRf P st d f args L' refs K (callRefs st 0 refs)) := rfl
@[go_sem ↓] theorem callRf_some {d : Option Nat} {f : FuncId} {args : List (Bool × SV)} {refs : List Nat} {L' : List (Root × Nat × Nat)} {rf : Refs} : callRf P st d f args L' refs K (some rf) = CallR P f (callArgs st L' refs args) rf (callK st L' refs d K) := rfl
@[go_sem ↓] theorem callK_eq {d : Option Nat} {refs : List Nat} {L' : List (Root × Nat × Nat)} {res : SV} {args' : List SV} {rf' : Refs} : callK st L' refs d K res args' rf' = ((res.fresh && refsThere rf' 0 refs.length) = true ∧ K (putDst (afterSt st L' refs args' rf') d res)) := rfl
@[go_sem ↓] theorem dvCall_nil {na : List Nat} {d : Nat} {s : St} {f : FuncId} {args : List (Bool × SV)} : dvCall P na d K st s f args [] = (argsOk s args = true ∧ CallW P f (callArgs s [] [] args) [] (dvK na d K st)) := rfl
@[go_sem ↓] theorem dvK_eq {na : List Nat} {d : Nat} {res : SV} {args' : List SV} {rf' : Refs} : dvK na d K st res args' rf' = (res.fresh = true ∧ dvPut na d K st res) := rfl
variable {rs : List RS} {Q : SV × Slots × Refs → Prop}
@[go_sem ↓] theorem finK_n : finK rs Q .normal st = Opt (finish st rs) Q := rfl
@[go_sem ↓] theorem finK_r : finK rs Q .ret st = Opt (finish st rs) Q := rfl
@[go_sem ↓] theorem Br_t {g : Bool → Prop} : Br true g = g true := rfl
@[go_sem ↓] theorem Br_f {g : Bool → Prop} : Br false g = g false := rfl
end
attribute [go_sem] noHitE argsOkE lendOkE hitE hitL Cell.flat dropSl dstsD XD.i XI.dst List.filterMap_cons_some List.filterMap_nil naV naC shiftBin strBin RB.s.injEq RB.r.injEq dvGo noHit vop vq dropOnly SV.absent argsOk lendOk scalCells opsL Cell.notAl eqCell eqCells hitN KEY bsliceSt partCells elemDs chunk clearOf grab moveOut appSt mksSt slcOSt rowsAt toCells D.toCell D.roCell Sh.of extAt numOfD numsOf svCell tyIs skipDst killSt killR inR forget keepS dropsOwnS dropsOwnR step asgSt evX look lookR SV.copy copyCs Cell.copy ownAll takes putSlot putS SV.owns Cell.isOwn qop SV.c1 binC isShift intBin one scVal gateOk
  finish gather RS.item resRoots alRoots itemsNodup itemsLocal resSh itemComps itemCells resCell St.filt mapS mapR SV.filt Cell.filt hitKeys hitF rootKept Cell.keys keysL Cell.places placesL Fin paramSlots argSlots
  Opt_some RB.fam evArgs evCaps cellSV allLents lentsOf lentsOk rootsNodup natsNodup cellsNodup callRefs callArgs argCells roCell roCells idxOf badRoot lentOf SV.known SV.fresh refsThere putDst afterSt
  boxSt allocSt newRef hitK putR boxSt load mkLoad Cell.plain storeSt storeRef unC rowsOf rowsAt rootCell pathRows loBound hiBound
  buildCells setRoot updS updR SV.set SV.get hitS Root.isSlot splice ownize moveOut hasRoot SV.has
attribute [go_sem] List.map_cons List.map_nil List.any_cons List.any_nil List.all_cons List.all_nil List.contains_cons List.contains_nil List.append_nil List.nil_append List.cons_append if_true if_false Bool.or_false Bool.false_or Bool.or_true Bool.true_or Bool.and_true Bool.true_and Bool.and_false Bool.false_and
  Bool.not_false Bool.not_true Bool.false_eq_true Option.bind_some Option.map_some reduceCtorEq decide_true decide_false List.length_cons List.length_nil List.getElem?_cons_zero List.getElem?_cons_succ List.getElem?_nil Option.getD_some Option.getD_none
  List.drop_zero List.drop_succ_cons List.take_succ_cons List.take_zero List.take_nil List.drop_nil ite_self and_true true_and and_self List.set_cons_zero List.set_cons_succ List.flatten_cons List.flatten_nil
section
variable {P : Program} {K : St → Prop} {L : XExit → St → Prop} {st st' : St}
@[congr] theorem W_congr {x : XCode} (h : st = st') : W P x L st = W P x L st' := by rw [h]
@[congr] theorem WI_congr {x : XL} (h : st = st') : WI P x K st = WI P x K st' := by rw [h]
@[congr] theorem DV_congr {x : List XD} (h : st = st') : DV P x K st = DV P x K st' := by rw [h]
@[congr] theorem LoopW_congr {w : (XExit → St → Prop) → St → Prop} (h : st = st') : LoopW w L st = LoopW w L st' := by rw [h]
@[congr] theorem Opt_congr {α : Type} {o o' : Option α} {K : α → Prop} (h : o = o') : Opt o K = Opt o' K := by rw [h]
@[congr] theorem Br_congr {b b' : Bool} {f : Bool → Prop} (h : b = b') : Br b f = Br b' f := by rw [h]
@[congr] theorem CallW_congr {f : FuncId} {args args' : List SV} {rf rf' : Refs} {k : SV → List SV → Refs → Prop} (h : args = args') (h2 : rf = rf') : CallW P f args rf k = CallW P f args' rf' k := by rw [h, h2]
@[congr] theorem CallR_congr {f : FuncId} {args args' : List SV} {rf rf' : Refs} {k : SV → List SV → Refs → Prop} (h : args = args') (h2 : rf = rf') : CallR P f args rf k = CallR P f args' rf' k := by rw [h, h2]
@[congr] theorem callW_congr {d : Option Nat} {f : FuncId} {args args' : List (Bool × SV)} {refs : List Nat} (h : args = args') : callW P st d f args refs K = callW P st d f args' refs K := by rw [h]
@[congr] theorem callvW_congr {d : Option Nat} {c c' : Cell} {args args' : List (Bool × SV)} {refs : List Nat} (h : args = args') (h2 : c = c') : callvW P st d args refs K c = callvW P st d args' refs K c' := by rw [h, h2]
@[congr] theorem callLs_congr {d : Option Nat} {f : FuncId} {args : List (Bool × SV)} {refs : List Nat} {l l' : List (Root × Nat × Nat)} (h : l = l') : callLs P st d f args refs K l = callLs P st d f args refs K l' := by rw [h]
@[congr] theorem callRf_congr {d : Option Nat} {f : FuncId} {args : List (Bool × SV)} {l : List (Root × Nat × Nat)} {refs : List Nat} {o o' : Option Refs} (h : o = o') : callRf P st d f args l refs K o = callRf P st d f args l refs K o' := by rw [h]
@[congr] theorem dvEr_congr {na : List Nat} {d k : Nat} {s : St} {f : FuncId} {args args' : List SV} {o o' : Option (List Cell)} (h : args = args') (h2 : o = o') : dvEr P na d k K s f args o = dvEr P na d k K s f args' o' := by rw [h, h2]
@[congr] theorem WFk_congr {fs us : List XD} {ords : List (List Nat)} (h : st = st') : WFk fs us ords K st = WFk fs us ords K st' := by rw [h]
@[congr] theorem WF_congr {fs us : List XD} {ords : List (List Nat)} (h : st = st') : WF fs us ords K st = WF fs us ords K st' := by rw [h]
@[congr] theorem dvCall_congr {na : List Nat} {d : Nat} {s s' : St} {f : FuncId} {args args' : List (Bool × SV)} {refs : List Nat} (h : s = s') (h2 : args = args') : dvCall P na d K st s f args refs = dvCall P na d K st s' f args' refs := by rw [h, h2]
@[congr] theorem nilW_congr {d : Option Nat} {o o' : Option (Nat × List (List D))} (h : o = o') : nilW st K d o = nilW st K d o' := by rw [h]
@[congr] theorem cnewW_congr {f : FuncId} {y y' : SV} {d : Option Nat} (h : y = y') : cnewW P st f K y d = cnewW P st f K y' d := by rw [h]
@[congr] theorem CallN_congr {f : FuncId} {y y' : SV} {k : List Cell → Prop} (h : y = y') : CallN P f y k = CallN P f y' k := by rw [h]
@[congr] theorem condW_congr {A B : St → Prop} {c c' : Cell} (h : c = c') : condW A B st c = condW A B st c' := by rw [h]
@[congr] theorem gdW_congr {i : XI} {want : Bool} {c c' : Cell} (h : c = c') : gdW P i want K st c = gdW P i want K st c' := by rw [h]
@[congr] theorem dvGd_congr {x : XD} {d : Nat} {want : Bool} {s s' : Sh} {c c' : List Cell} (h : s = s') (h2 : c = c') : dvGd P x d want K st s c = dvGd P x d want K st s' c' := by rw [h, h2]
@[congr] theorem scW_congr {want : Bool} {blk : XL} {t : Nat} {ks : List Nat} {d : Nat} {g : Option (Nat × Bool)} {c rhs : XO} {e e' : Cell} (h : e = e') : scW P want blk t ks d g c rhs K st e = scW P want blk t ks d g c rhs K st e' := by rw [h]
@[congr] theorem ScW_congr {want b b' : Bool} {blk : (St → Prop) → St → Prop} {t : Nat} {ks : List Nat} {d : Nat} {g : Option (Nat × Bool)} {c rhs : XO} (h : b = b') (h2 : st = st') : ScW want b blk t ks d g c rhs K st = ScW want b' blk t ks d g c rhs K st' := by rw [h, h2]
@[congr] theorem scEndE_congr {want : Bool} {ks : List Nat} {d : Nat} {g : Option (Nat × Bool)} {c rhs : XO} (h : st = st') : scEndE want ks d g c rhs K st = scEndE want ks d g c rhs K st' := by rw [h]
@[congr] theorem scEndD_congr {b b' : Bool} {ks : List Nat} {d : Nat} {g : Option (Nat × Bool)} {c : XO} (h : b = b') (h2 : st = st') : scEndD b ks d g c K st = scEndD b' ks d g c K st' := by rw [h, h2]
@[congr] theorem scEnd_congr {rhs : XO} {x : Bool} {ks : List Nat} {s : St} (h : st = st') : scEnd rhs x ks s st = scEnd rhs x ks s st' := by rw [h]
end
def rowsB (l : List Int) : List (List D) := l.map fun b => [.int .u8 b]
@[go_sem] theorem numsOf_rowsB : ∀ l : List Int, numsOf (rowsB l) = some l
  | [] => rfl
  | b :: l => by
    have ih := numsOf_rowsB l
    simp only [rowsB, List.map_cons] at ih ⊢
    simp only [numsOf, numOfD, ih]
theorem rowsB_snoc (l : List Int) (b : Int) : rowsB l ++ [[.int .u8 b]] = rowsB (l ++ [b]) := by simp [rowsB]
@[go_sem] theorem rowsB_length (l : List Int) : (rowsB l).length = l.length := by simp [rowsB]
theorem rowsB_nil : ([] : List (List D)) = rowsB [] := rfl
end Go.Eng

namespace Go.Eng
open Go Go.RowKit
section
variable {P : Program}
def Given (w : World) (v : Value) (x : SV) : Prop := SVR (fun _ => .frame) ⟨#[], #[], w, fun _ => 0⟩ (fun _ => .res 0) v x
def SV.plain (x : SV) : Bool := x.cs.all fun c => match c with
  | .int _ _ => true
  | .bool _ => true
  | .str _ => true
  | .ro _ _ => true
  | _ => false
theorem given_any {w : World} {v : Value} {x : SV} (hp : x.plain = true) (h : Given w v x) (m : Mc) (hm : m.w = w) (r : Nat → Root) : SVR (fun _ => .frame) m r v x := by
  unfold Given at h
  by_cases hs : x.sh = .no
  · exact SVR_no hs
  · rw [SVR_iff hs, CRs_iff] at h ⊢
    refine ⟨h.1, h.2.1, fun i u c hu hc => ?_⟩
    have h1 := h.2.2 i u c hu hc
    have h2 := List.all_eq_true.1 hp c (List.mem_of_getElem? hc)
    cases c with
    | int k n => exact h1
    | bool b => exact h1
    | str s => exact h1
    | ro sz rows => subst hm; exact h1
    | _ => simp at h2
theorem calls_of_good {f : FuncId} {args args' : List SV} {rf' : Refs} {b : Bool} (hG : Good P f args [] (bl b) args' rf') {W : World} {vals : Array Value} (hsz : vals.size = args.length) (hp : args.all SV.plain = true)
    (hv : ∀ (i : Nat) v x, vals[i]? = some v → args[i]? = some x → Given W v x) :
    Calls P f vals W fun e W' => e = .returned (.bool b) ∧ Below W.heap.size W W' := by
  have hal : ∀ r p, p ∈ (rootCell (⟨[], [], argSlots 0 args⟩ : St) r).places → False := by
    intro r p hpp
    cases r with
    | slot s c => simp [rootCell, look, SV.get, Cell.places] at hpp
    | res c => simp [rootCell, Cell.places] at hpp
    | ref k c => simp [rootCell, lookR, Cell.places] at hpp
    | gho i c =>
      simp only [rootCell, look_argSlots, Nat.zero_le, if_true, Nat.sub_zero] at hpp
      cases hx : args[i]? with
      | none => simp [hx, SV.get, Cell.places] at hpp
      | some x =>
        simp only [hx, Option.getD_some] at hpp
        by_cases hu : x.get c = .undef
        · rw [hu] at hpp; simp [Cell.places] at hpp
        · have h1 := List.all_eq_true.1 (List.all_eq_true.1 hp x (List.mem_of_getElem? hx)) _ (SV.get_mem hu)
          generalize x.get c = cc at hpp h1
          cases cc <;> simp [Cell.places] at hpp h1
  refine Calls.mono (hG W (fun _ => .frame) (fun _ => 0) vals hsz ⟨⟨fun s => SVR_no rfl, fun i => ?_, fun k cs hk => by simp [lookR] at hk⟩, fun r p hpp => (hal r p hpp).elim⟩) ?_
  · simp only [look_argSlots, Nat.zero_le, if_true, Nat.sub_zero]
    cases hx : args[i]? with
    | none => exact SVR_no rfl
    | some x =>
      have hi : i < vals.size := by rw [hsz]; exact (List.getElem?_eq_some_iff.1 hx).1
      have hvi : vals[i]? = some vals[i] := Array.getElem?_eq_getElem hi
      have e : vals.getD i undef = vals[i] := by simp [Array.getD, hi]
      simp only [Option.getD_some]
      rw [e]
      exact given_any (List.all_eq_true.1 hp x (List.mem_of_getElem? hx)) (hv i _ x hvi hx) _ rfl _
  · rintro e W' ⟨v, ω', rfl, _, hres, hT⟩
    refine ⟨?_, hT.os, hT.tape, hT.output, hT.size, fun k hk => ?_⟩
    · have := hres .res rfl
      have hb : v = .bool b := (SVR_c1 this (by simp [SV.c1])).2
      rw [hb]
    · have hx : W.heap[k]? = some W.heap[k] := Array.getElem?_eq_getElem hk
      rw [hx]; exact (hT.fr k _ hx rfl).1
end
structure SitQ (ω : Nat → Lab) (m : Mc) (N : Nat) (a : Act) (w : World) (st : St) : Prop where
  df : a.defers = []
  sz : a.tmps.size = N
  w : w = m.w
  r : RR ω ⟨a.tmps, m.G, m.w, m.rb⟩ st
def qk (st : St) : XOp → Option SV
  | .asg x _ => some (evX st x)
  | .build zero parts => (buildCells st zero parts).map fun cs => ⟨.agg, cs⟩
  | op => qop st op
section
variable {P : Program} {ω : Nat → Lab} {m : Mc} {st : St} {o : Oper} {a : Act} {N : Nat}
theorem qk_sound {op : XOp} {y : SV} (h : RR ω m st) (ha : a.tmps = m.T) (hm : mE P o op = true) (hq : qk st op = some y) : QOk P ω m st o a y := by
  cases op with
  | asg x tk =>
    simp only [mE] at hm
    split at hm
    · rename_i z ho
      simp only [qk, Option.some.injEq] at hq; subst hq
      exact ⟨a.eval z, by simp [execOp, ho], fun r => evX_sound h ha hm r, evX_alOk h hm⟩
    · simp at hm
  | build zero parts =>
    simp only [qk, Option.map_eq_some_iff] at hq
    obtain ⟨cs, hb, rfl⟩ := hq
    simp only [mE] at hm
    split at hm
    · rename_i t ps ho
      simp only [Bool.and_eq_true] at hm
      obtain ⟨h1, h2⟩ := hm
      split at h1
      · rename_i fs hu
        simp only [Bool.and_eq_true] at h1
        obtain ⟨i, z, h3, h4, h5⟩ := zeroIs_spec h2
        exact q_build h ha ho hu h3 h4 h5 h1.1 h1.2 hb
      · simp at h1
    · simp at hm
  | isnil x => simp [qk, qop] at hq
  | cnew f x => simp [qk, qop] at hq
  | alloc cs => simp [qk, qop] at hq
  | box x tk => simp [qk, qop] at hq
  | bslice sz parts => simp [qk, qop] at hq
  | mks sz bytes zero l => simp [qk, qop] at hq
  | slcO sz x lo hi => simp [qk, qop] at hq
  | app sz bytes x z nested => simp [qk, qop] at hq
  | call f args refs => simp [qk, qop] at hq
  | callv x args refs => simp [qk, qop] at hq
  | store n z x tk => simp [qk, qop] at hq
  | _ => simp only [mE] at hm; exact q_sound h ha hm hq
def WQ : XL → (St → Prop) → St → Prop
  | .nil, K, st => K st
  | .op i r, K, st => match i.guard with
    | none => ∃ d y, i.dst = some d ∧ qk st i.op = some y ∧ WQ r K (putSlot st d y)
    | some (t, want) => ∃ b, (look st.sl t).c1 = .bool b ∧ (b = want → ∃ d y, i.dst = some d ∧ qk st i.op = some y ∧ WQ r K (putSlot st d y)) ∧ (b ≠ want → ∃ d, i.dst = some d ∧ WQ r K (putSlot st d .undef))
  | .sc _ _ _ _ _ _ _ _ _ _, _, _ => False
theorem wq_sound {ops : Array Oper} {Q : Exit → Act → World → Prop} : ∀ (x : XL) (K : St → Prop) (os : List Oper) (j : Nat) (R : List Nat), (∀ i, i < os.length → os[i]? = ops[j + i]?) → mIs P N ops os x.flat = true →
    ∀ (st : St) (a : Act) (w : World), SitQ ω m N a w st → WQ x K st → (∀ a w st, SitQ ω m N a w st → K st → wpOps P ops Q R a w) → wpOps P ops Q (List.range' j os.length ++ R) a w
  | .nil, K, os, j, R, hg, hm, st, a, w, hS, hW, hQ => by
    cases os with
    | nil => simpa using hQ a w st hS hW
    | cons o os => simp [XL.flat, mIs] at hm
  | .sc _ _ _ _ _ _ _ _ _ _, K, os, j, R, hg, hm, st, a, w, hS, hW, hQ => hW.elim
  | .op i r, K, [], j, R, hg, hm, st, a, w, hS, hW, hQ => by simp [XL.flat, mIs] at hm
  | .op i r, K, o :: os, j, R, hg, hm, st, a, w, hS, hW, hQ => by
    simp only [XL.flat, mIs, Bool.and_eq_true] at hm
    have h0 : ops[j]? = some o := by have := hg 0 (by simp); simpa using this.symm
    have hrest := wq_sound (ops := ops) (Q := Q) r K os (j + 1) R (fun k hk => by
      have := hg (k + 1) (by simpa using hk); simp only [List.getElem?_cons_succ] at this; rw [this]; congr 1; omega) hm.2
    simp only [List.length_cons, List.range'_succ, List.cons_append, wpOps, h0]
    have hmi := hm.1
    simp only [mI, Bool.and_eq_true, decide_eq_true_eq] at hmi
    obtain ⟨⟨⟨hdst, hrng⟩, hgd⟩, hmE⟩ := hmi
    have hd : ∀ t, o.dst = some t → t < a.tmps.size := fun t ht => by
      rw [ht] at hrng
      simp only [Bool.and_eq_true, decide_eq_true_eq] at hrng
      rw [hS.sz]; exact hrng.1
    have hw := hS.w
    subst hw
    have go : (∃ d y, i.dst = some d ∧ qk st i.op = some y ∧ WQ r K (putSlot st d y)) → o.wp P a m.w (wpOps P ops Q (List.range' (j + 1) os.length ++ R)) Q := by
      rintro ⟨d, y, h1, h2, h3⟩
      obtain ⟨u, e1, e2, e3⟩ := qk_sound (m := ⟨a.tmps, m.G, m.w, m.rb⟩) hS.r rfl hmE h2
      have hod : o.dst = some d := by rw [hdst, h1]
      unfold Oper.wp
      simp only at e1
      rw [e1, Oper.upon_value, hod]
      have := hS.r.put (d := d) (v := u) (x := y) (hd d hod) (e2 _) e3
      exact hrest _ _ m.w ⟨hS.df, by simpa [Act.put] using hS.sz, rfl, by simpa [Act.put] using this⟩ h3 hQ
    simp only [WQ] at hW
    cases hgi : i.guard with
    | none =>
      rw [hgi] at hW
      rw [(wanted_of hgd).1 hgi, if_pos rfl]
      exact .inl (go hW)
    | some x =>
      obtain ⟨t, want⟩ := x
      rw [hgi] at hW
      simp only at hW
      obtain ⟨b, hb, hW1, hW2⟩ := hW
      rw [(wanted_of hgd).2.1 t want b hgi (tmp_bool (SVR_of_eq hS.r hb))]
      by_cases hbw : b = want
      · rw [if_pos (by simpa using hbw)]
        exact .inl (go (hW1 hbw))
      · rw [if_neg (by simpa using hbw)]
        obtain ⟨d, h1, h2⟩ := hW2 hbw
        have hod : o.dst = some d := by rw [hdst, h1]
        rw [hod]
        have := hS.r.put (d := d) (v := undef) (x := .undef) (hd d hod) (SVR_no rfl) (fun c p hp => by simp [SV.get, Cell.places] at hp)
        exact hrest _ _ m.w ⟨hS.df, by simpa [Act.put] using hS.sz, rfl, by simpa [Act.put] using this⟩ h2 hQ
def WC : XCode → (XExit → St → Prop) → St → Prop
  | .skip, K, st => K .normal st
  | .ret, K, st => K .ret st
  | .exit id, K, st => K (.exit id) st
  | .ops _ l, K, st => WQ l (K .normal) st
  | .seq a b, K, st => WC a (thenK (WC b K) K) st
  | .cond x a b, K, st => ∃ t, (evX st x).c1 = .bool t ∧ condK (WC a K) (WC b K) st t
  | .block id a, K, st => WC a (blkK id K) st
  | .loop a, K, st => LoopW (WC a) K st
  | .any _ _ _ _ _ _, _, _ => False
  | .bar _ _ _ _ _ _, _, _ => False
  | .keep sl rf a, K, st => WC a K (forget (fun s => sl.contains s) (fun k => KEY ≤ k || rf.contains k) st)
def PostQ (ω : Nat → Lab) (m : Mc) (N : Nat) (K : XExit → St → Prop) (e : Exit) (a : Act) (w : World) : Prop := ∃ x st, e = x.to ∧ SitQ ω m N a w st ∧ K x st
theorem wc_sound : ∀ (x : XCode) (c : Code), mCode P N c x = true → ∀ (K : XExit → St → Prop) (st : St) (a : Act) (w : World), SitQ ω m N a w st → WC x K st → c.wp P (PostQ ω m N K) a w
  | .keep sl rf x, c, hm, K, st, a, w, hS, hW =>
    wc_sound x c (by cases c <;> simpa [mCode] using hm) K _ a w ⟨hS.df, hS.sz, hS.w, hS.r.forget⟩ hW
  | .skip, c, hm, K, st, a, w, hS, hW => by
    cases c <;> simp [mCode] at hm
    exact wp_skip ⟨.normal, st, rfl, hS, hW⟩
  | .ret, c, hm, K, st, a, w, hS, hW => by
    cases c <;> simp [mCode] at hm
    exact wp_ret ⟨.ret, st, rfl, hS, hW⟩
  | .exit id, c, hm, K, st, a, w, hS, hW => by
    cases c <;> simp [mCode] at hm
    subst hm
    exact wp_exit ⟨.exit _, st, rfl, hS, hW⟩
  | .any _ _ _ _ _ _, c, hm, K, st, a, w, hS, hW => hW.elim
  | .bar _ _ _ _ _ _, c, hm, K, st, a, w, hS, hW => hW.elim
  | .ops k l, c, hm, K, st, a, w, hS, hW => by
    cases c <;> try (simp [mCode] at hm; done)
    rename_i id ops draw
    cases draw with
    | true => simp [mCode] at hm
    | false =>
      simp only [mCode, Bool.and_eq_true] at hm
      refine wp_region ?_
      have := wq_sound (Q := PostQ ω m N K) l (K .normal) ops.toList 0 [] (fun i _ => by simp) hm.1 st a w hS hW (fun a w st h1 h2 => ⟨.normal, st, rfl, h1, h2⟩)
      simpa [List.range_eq_range'] using this
  | .seq x y, c, hm, K, st, a, w, hS, hW => by
    cases c <;> try (simp [mCode] at hm; done)
    rename_i c d
    simp only [mCode, Bool.and_eq_true] at hm
    refine wp_seq (wp_mono (wc_sound x c hm.1 _ st a w hS hW) ?_)
    rintro e a' w' ⟨xe, st', rfl, h1, h2⟩
    cases xe with
    | normal => exact wc_sound y d hm.2 K st' a' w' h1 h2
    | exit id => exact ⟨.exit id, st', rfl, h1, h2⟩
    | ret => exact ⟨.ret, st', rfl, h1, h2⟩
  | .cond z x y, c, hm, K, st, a, w, hS, hW => by
    cases c <;> try (simp [mCode] at hm; done)
    rename_i o c d
    simp only [mCode, Bool.and_eq_true] at hm
    obtain ⟨⟨h1, h2⟩, h3⟩ := hm
    obtain ⟨t, ht, hW⟩ := hW
    have hv : a.eval o = .bool t := (c1_of (m := ⟨a.tmps, m.G, m.w, m.rb⟩) hS.r rfl h1 ht (by simp) (fun _ => .res 0)).1
    refine wp_cond hv ?_
    cases t with
    | true => exact wc_sound x c h2 K st a w hS hW
    | false => exact wc_sound y d h3 K st a w hS hW
  | .block id x, c, hm, K, st, a, w, hS, hW => by
    cases c <;> try (simp [mCode] at hm; done)
    rename_i id' c
    simp only [mCode, Bool.and_eq_true, beq_iff_eq] at hm
    obtain ⟨rfl, hm⟩ := hm
    refine wp_block (wp_mono (wc_sound x c hm _ st a w hS hW) ?_)
    rintro e a' w' ⟨xe, st', rfl, h1, h2⟩
    cases xe with
    | normal => exact ⟨.normal, st', rfl, h1, h2⟩
    | exit id =>
      simp only [XExit.to, Exit.inBlock]
      simp only [blkK] at h2
      split
      · rename_i e; rw [if_pos e] at h2; exact ⟨.normal, st', rfl, h1, h2⟩
      · rename_i e; rw [if_neg e] at h2; exact ⟨.exit id, st', rfl, h1, h2⟩
    | ret => exact ⟨.ret, st', rfl, h1, h2⟩
  | .loop x, c, hm, K, st, a, w, hS, hW => by
    cases c <;> try (simp [mCode] at hm; done)
    rename_i c
    simp only [mCode] at hm
    obtain ⟨I, ⟨n0, h0⟩, hr⟩ := hW
    have key : ∀ n (st : St), I n st → ∀ a w, SitQ ω m N a w st → ∀ (b : Frame) (k : List Item) (cs : List Frame),
        ∃ e a' w', PostQ ω m N K e a' w' ∧ Arrives P (lone (b.at a (.code c :: .inLoop c :: k)) cs w) b k cs e a' w' := by
      intro n
      induction n using Nat.strongRecOn with
      | _ n ih =>
        intro st hI a w hS b k cs
        obtain ⟨e, a₁, w₁, hq, harr⟩ := wc_sound x c hm _ st a w hS (hr n st hI) b (.inLoop c :: k) cs
        obtain ⟨xe, st', rfl, h1, h2⟩ := hq
        cases xe with
        | normal =>
          obtain ⟨n', hlt, hI₁⟩ := h2
          obtain ⟨e₂, a₂, w₂, hq₂, harr₂⟩ := ih n' hlt st' hI₁ a₁ w₁ h1 b k cs
          exact ⟨e₂, a₂, w₂, hq₂, .of_steps (Steps.trans harr (.one step_inLoop)) harr₂⟩
        | exit id => exact ⟨_, a₁, w₁, ⟨.exit id, st', rfl, h1, h2⟩, .pass (x := .inLoop c) rfl (fun _ _ => .inl (by simp [XExit.to])) harr⟩
        | ret => exact ⟨_, a₁, w₁, ⟨.ret, st', rfl, h1, h2⟩, .pass (x := .inLoop c) rfl (fun _ _ => .inl (by simp [XExit.to])) harr⟩
    intro b k cs
    obtain ⟨e, a', w', hq, harr⟩ := key n0 st h0 a w hS b k cs
    exact ⟨e, a', w', hq, .of_steps (.one step_loop) harr⟩
def Cell.flat0 : Cell → Bool
  | .int _ _ => true
  | .bool _ => true
  | .str _ => true
  | .ro _ _ => true
  | _ => false
theorem CR_flat {m' : Mc} (hw : m'.w = m.w) {r r' : Root} {v : Value} {c : Cell} (hc : c.flat0 = true) (h : CR ω m r v c) : CR ω m' r' v c := by
  cases c <;> simp [Cell.flat0] at hc
  · exact h
  · exact h
  · exact h
  · simp only [CR, CRx] at h ⊢; rw [hw]; exact h
theorem CRs_flat {m' : Mc} (hw : m'.w = m.w) {r r' : Nat → Root} {vs : List Value} {cs : List Cell} (hc : cs.all Cell.flat0 = true) (h : CRs ω m r 0 vs cs) : CRs ω m' r' 0 vs cs := by
  rw [CRs_iff] at h ⊢
  exact ⟨h.1, fun i v c hv hcc => CR_flat hw (List.all_eq_true.1 hc _ (List.mem_of_getElem? hcc)) (h.2 i v c hv hcc)⟩
theorem flat_places {c : Cell} (h : c.flat0 = true) : c.places = [] := by cases c <;> first | rfl | simp [Cell.flat0] at h
theorem copyCs_flat (r : Nat → Root) : ∀ (j : Nat) (cs : List Cell), cs.all Cell.flat0 = true → copyCs r j cs = cs
  | _, [], _ => rfl
  | j, c :: cs, h => by
    simp only [List.all_cons, Bool.and_eq_true] at h
    rw [copyCs, copyCs_flat r (j + 1) cs h.2]
    congr 1
    cases c <;> first | rfl | simp [Cell.flat0] at h
def noK : XExit → St → Prop := fun _ _ => False
theorem FcN_of {f : FuncId} {A B C : XCode} {kk : List Nat} {l l0 : XL} {d e r sz : Nat} {tk tk2 : Bool} {kl kl2 : List Nat} {rows : List (List D)} {pre : Prop} {α : Type} {I : α → Prop} {cs : α → List Cell}
    (hm : fnOk P f (.seq A (.seq B (.seq C (.seq (.ops kk l) .ret)))) [.tmp r] 1 = true) (hl : l.flat = l0.flat ++ [⟨some d, none, .box (.s e) tk, kl⟩, ⟨some r, none, .asg (.s d) tk2, kl2⟩])
    (hW : pre → WC A (thenK (WC B (thenK (WC C (thenK (WQ l0 fun s => ∃ x, I x ∧ look s.sl e = ⟨.agg, cs x⟩ ∧ (cs x).all Cell.flat0 = true) noK)) noK)) noK)
      ⟨paramSlots 0 [⟨.one, [.ro sz rows]⟩], [], argSlots 0 [⟨.one, [.ro sz rows]⟩]⟩) : FcN P f ⟨.one, [.ro sz rows]⟩ pre α I cs := by
  unfold fnOk at hm
  split at hm
  · rename_i fn hf
    simp only [Bool.and_eq_true] at hm
    refine ⟨fun hp => ⟨callable_of hm.1, ?_⟩⟩
    have hm := hm.2
    have hW := hW hp
    simp only [mFun, Bool.and_eq_true, decide_eq_true_eq] at hm
    obtain ⟨⟨h1, h2⟩, h3⟩ := hm
    split at h1
    · rename_i c hb
      cases c <;> try (simp [mCode] at h1; done)
      rename_i cA c
      simp only [mCode, Bool.and_eq_true] at h1
      obtain ⟨hA, h1⟩ := h1
      cases c <;> try (simp [mCode] at h1; done)
      rename_i cB c
      simp only [mCode, Bool.and_eq_true] at h1
      obtain ⟨hB, h1⟩ := h1
      cases c <;> try (simp [mCode] at h1; done)
      rename_i cC c
      simp only [mCode, Bool.and_eq_true] at h1
      obtain ⟨hC, h1⟩ := h1
      cases c <;> try (simp [mCode] at h1; done)
      rename_i cD cR
      simp only [mCode, Bool.and_eq_true] at h1
      obtain ⟨hD, h1⟩ := h1
      cases cR <;> simp [mCode] at h1
      cases cD <;> try (simp [mCode] at hD; done)
      rename_i id ops draw
      cases draw with
      | true => simp [mCode] at hD
      | false =>
        simp only [mCode, Bool.and_eq_true] at hD
        intro ω m v hv
        refine calls_of_wp hf hb ?_
        have hS : SitQ ω ⟨#[], #[v], m.w, m.rb⟩ fn.ntmps { tmps := #[v] ++ Array.replicate (fn.ntmps - (#[v] : Array Value).size) undef, defers := [] } m.w ⟨paramSlots 0 [⟨.one, [.ro sz rows]⟩], [], argSlots 0 [⟨.one, [.ro sz rows]⟩]⟩ := by
          refine ⟨rfl, by simp; omega, rfl, begin_sound (m := ⟨#[], #[v], m.w, m.rb⟩) (fun i hi => ?_) ⟨⟨fun s => SVR_no rfl, fun i => ?_, fun k cs hk => by simp [lookR] at hk⟩, fun r p hp => ?_⟩⟩
          · simp at hi; subst hi; simp [Array.getElem?_append]
          · cases i with
            | zero =>
              have := hv (.gho 0)
              simp only [argSlots, look, SVR, if_true] at this ⊢
              have e : (#[v] : Array Value).getD 0 undef = v := rfl
              rw [e]
              exact ⟨this.1, CRs_flat (m := m) (m' := ⟨#[], #[v], m.w, m.rb⟩) (r' := .gho 0) rfl rfl this.2⟩
            | succ i => exact SVR_no (by simp [argSlots, look])
          · exfalso
            cases r with
            | gho i c =>
              cases i with
              | zero => cases c <;> simp [rootCell, argSlots, look, SV.get, Cell.places] at hp
              | succ i => simp [rootCell, argSlots, look, SV.get, Cell.places] at hp
            | slot i c => simp [rootCell, look, SV.get, Cell.places] at hp
            | ref k c => simp [rootCell, lookR, Cell.places] at hp
            | res c => simp [rootCell, Cell.places] at hp
        refine wp_seq (wp_mono (wc_sound A cA hA _ _ _ _ hS hW) ?_)
        rintro e1 a1 w1 ⟨x1, s1, rfl, hS1, hK1⟩
        cases x1 with
        | exit _ => exact hK1.elim
        | ret => exact hK1.elim
        | normal =>
        refine wp_seq (wp_mono (wc_sound B cB hB _ _ _ _ hS1 hK1) ?_)
        rintro e2 a2 w2 ⟨x2, s2, rfl, hS2, hK2⟩
        cases x2 with
        | exit _ => exact hK2.elim
        | ret => exact hK2.elim
        | normal =>
        refine wp_seq (wp_mono (wc_sound C cC hC _ _ _ _ hS2 hK2) ?_)
        rintro e3 a3 w3 ⟨x3, s3, rfl, hS3, hK3⟩
        cases x3 with
        | exit _ => exact hK3.elim
        | ret => exact hK3.elim
        | normal =>
        refine wp_seq (wp_region ?_)
        have hD1 := hD.1
        rw [hl] at hD1
        obtain ⟨os1, os2, hos, hm1, hm2⟩ := mIs_append hD1
        match os2, hm2 with
        | [], hm2 => simp [mIs] at hm2
        | [_], hm2 => simp [mIs] at hm2
        | _ :: _ :: _ :: _, hm2 => simp [mIs] at hm2
        | [o1, o2], hm2 =>
        simp only [mIs, Bool.and_eq_true, Bool.and_true] at hm2
        obtain ⟨hb1, hb2⟩ := hm2
        have hsz : ops.size = os1.length + 2 := by have := congrArg List.length hos; simpa using this
        have hrange : List.range ops.size = List.range' 0 os1.length ++ [os1.length, os1.length + 1] := by
          rw [hsz, List.range_eq_range', ← List.range'_append_1]
          simp [List.range'_succ]
        rw [hrange]
        have hget : ∀ i, ops[i]? = (os1 ++ [o1, o2])[i]? := fun i => by rw [← hos, Array.getElem?_toList]
        refine wq_sound (m := ⟨#[], #[v], m.w, m.rb⟩) l0 _ os1 0 _ (fun i hi => by rw [hget, Nat.zero_add, List.getElem?_append_left hi]) hm1 s3 a3 w3 hS3 hK3 ?_
        rintro a4 w4 s4 hS4 ⟨x, hx, hlk, hfl⟩
        have g1 : ops[os1.length]? = some o1 := by rw [hget]; simp
        have g2 : ops[os1.length + 1]? = some o2 := by rw [hget]; simp
        simp only [mI, Bool.and_eq_true, decide_eq_true_eq] at hb1 hb2
        obtain ⟨⟨⟨hd1, hr1⟩, hg1⟩, hmE1⟩ := hb1
        obtain ⟨⟨⟨hd2, hr2⟩, hg2⟩, hmE2⟩ := hb2
        simp only [wpOps, g1, g2]
        rw [(wanted_of (i := ⟨some d, none, .box (.s e) tk, kl⟩) hg1).1 rfl, if_pos rfl]
        left
        have hw4 := hS4.w
        subst hw4
        simp only [mE] at hmE1 hmE2
        split at hmE1
        · rename_i elem z ho1
          split at hmE2
          · rename_i z2 ho2
            have hev := evX_sound (m := ⟨a4.tmps, #[v], m.w, m.rb⟩) hS4.r rfl hmE1 (fun _ => .res 0)
            have hev2 := fun r => evX_sound (m := ⟨a4.tmps, #[v], m.w, m.rb⟩) hS4.r rfl hmE1 r
            simp only [evX, hlk] at hev2
            unfold Oper.wp
            rw [show (execOp a4.eval o1).run P m.w = .ok (.value (.pointer (some ⟨m.w.heap.size, 0, none⟩))) (m.w.alloc (.cells (a4.eval z).cells elem)) by simp [execOp, ho1, Instr.box, newVar, newRow], Oper.upon_value, hd1]
            rw [(wanted_of (i := ⟨some r, none, .asg (.s d) tk2, kl2⟩) hg2).1 rfl, if_pos rfl]
            left
            have hdN : d < a4.tmps.size := by
              rw [hd1] at hr1
              simp only [Bool.and_eq_true, decide_eq_true_eq] at hr1
              rw [hS4.sz]; exact hr1.1
            have hrN : r < a4.tmps.size := by
              rw [hd2] at hr2
              simp only [Bool.and_eq_true, decide_eq_true_eq] at hr2
              rw [hS4.sz]; exact hr2.1
            have hz2 : (a4.put (some d) (.pointer (some ⟨m.w.heap.size, 0, none⟩))).eval z2 = .pointer (some ⟨m.w.heap.size, 0, none⟩) := by
              cases z2 <;> simp [mO] at hmE2
              subst hmE2
              simp [Act.eval, Act.put, Array.getD_eq_getD_getElem?, hdN]
            rw [show (execOp (a4.put (some d) (.pointer (some ⟨m.w.heap.size, 0, none⟩))).eval o2).run P (m.w.alloc (.cells (a4.eval z).cells elem)) = .ok (.value (.pointer (some ⟨m.w.heap.size, 0, none⟩))) (m.w.alloc (.cells (a4.eval z).cells elem)) by simp [execOp, ho2, hz2], Oper.upon_value, hd2]
            refine wp_ret ?_
            refine ⟨by simpa [Act.put] using hS4.df, .pointer (some ⟨m.w.heap.size, 0, none⟩), ?_, (a4.eval z).cells, elem, cs x, rfl, rfl, ⟨x, hx, rfl⟩, fun r' => ?_, fun c hc => flat_places (List.all_eq_true.1 hfl c hc)⟩
            · have hres : fn.results.toList = [.tmp r] := by
                match hrl : fn.results.toList, h2 with
                | [], h2 => simp [mRes] at h2
                | [.tmp t], h2 => simp [mRes] at h2; rw [h2]
                | [.cell _ _], h2 => simp [mRes] at h2
                | .tmp _ :: _ :: _, h2 => simp [mRes] at h2
                | .cell _ _ :: _ :: _, h2 => simp [mRes] at h2
              refine (results_run (vs := [.pointer (some ⟨m.w.heap.size, 0, none⟩)]) ?_).trans rfl
              rw [hres]
              simp [resOne, Act.put, Array.getD_eq_getD_getElem?, hrN]
            · have hc := CRs_cells (hev2 r') (.inr rfl)
              simp only [SV.copy, copyCs_flat _ _ _ hfl] at hc
              exact CRs_flat (m := ⟨a4.tmps, #[v], m.w, m.rb⟩) (m' := m) (r' := r') rfl hfl hc
          · simp at hmE2
        · simp at hmE1
    · simp at h1
  · simp at hm
end
theorem FcN.pin {P : Program} {f : FuncId} {y : SV} {pre : Prop} {α : Type} {I : α → Prop} {sz : Nat} {rows : List (List D)} {rest : α → List Cell} (h : FcN P f y pre α I (fun p => .ro sz rows :: rest p)) :
    FcN P f y pre (Value × α) (fun p => I p.2) (fun p => .rov p.1 sz rows :: rest p.2) := ⟨fun hp => by
  obtain ⟨h1, h2⟩ := h.ok hp
  refine ⟨h1, fun ω m v hv => Calls.mono (h2 ω m v hv) ?_⟩
  rintro e w' ⟨arr, elem, cs, e1, e2, ⟨x, hx, rfl⟩, h3, h4⟩
  obtain ⟨u, hu⟩ : ∃ u, ∀ r, CRs ω m r 0 arr.toList (.rov u sz rows :: rest x) := by
    revert h3
    cases arr.toList with
    | nil => intro h3; exact (h3 fun _ => .res 0).elim
    | cons u l => intro h3; exact ⟨u, fun r => ⟨⟨rfl, (h3 r).1⟩, (h3 r).2⟩⟩
  refine ⟨arr, elem, _, e1, e2, ⟨(u, x), hx, rfl⟩, hu, fun c hc => ?_⟩
  simp only [List.mem_cons] at hc
  rcases hc with rfl | hc
  · rfl
  · exact h4 c (List.mem_cons_of_mem _ hc)⟩
end Go.Eng
