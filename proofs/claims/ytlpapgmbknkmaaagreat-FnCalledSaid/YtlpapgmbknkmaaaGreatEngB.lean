/-
  A logic over pure values for the walk of Go functions: its definitions and their soundness, for every program; no condition.
-/
import Derived.Test.YtlpapgmbknkmaaaGreatEngA
set_option linter.unusedSimpArgs false
set_option linter.unusedVariables false
set_option maxRecDepth 100000
set_option maxHeartbeats 2000000
namespace Go.Eng
open Go
def D.scalar : D → Bool
  | .int _ _ => true
  | .bool _ => true
  | .str _ => true
  | _ => false
def flatRows (rows : List (List D)) : Bool := rows.all fun r => r.all D.scalar
def grab (st : St) : Cell → Option (Nat × List (List D) × St)
  | .al p => moveOut st p
  | .own sz [] => some (sz, [], st)
  | _ => none
def alOr : Cell → Pl
  | .al p => p
  | _ => ⟨.res 0, []⟩
def okBig (n k bytes : Nat) : Bool := decide ((n + k) * bytes ≤ 140737488355328) && decide (n + k ≤ 140737488355328)
def appSt (st : St) (d sz bytes : Nat) (x y : XO) (nested : Bool) : Option St :=
  match grab st (evX st x).c1 with
  | some (sz', rows, st1) =>
    if sz' = sz then
      if nested then
        match (evX st y).c1 with
        | .al q => if clearOf (alOr (evX st x).c1) [.al q] = true then
            match rowsAt st1 q with
            | some (sz'', rowsY) =>
              match elemDs st1 ⟨.slot d 0, []⟩ (toCells q 0 rowsY.flatten) with
              | some (ds, st2) => if sz'' = sz ∧ okBig rows.length rowsY.length bytes = true ∧ (look st2.sl d).owns = false then some (putSlot st2 d ⟨.one, [.own sz (rows ++ chunk sz rowsY.length ds)]⟩) else none
              | none => none
            | none => none
          else none
        | _ => none
      else
        match rowsOf st (evX st y).c1 with
        | some (sz'', rowsY) => if sz'' = sz ∧ flatRows rowsY = true ∧ okBig rows.length rowsY.length bytes = true ∧ (look st1.sl d).owns = false then some (putSlot st1 d ⟨.one, [.own sz (rows ++ rowsY)]⟩) else none
        | none => none
    else none
  | none => none
section
variable {P : Program} {ω : Nat → Lab} {m : Mc} {st : St} {o : Oper} {a : Act}
theorem rd_vals {w : World} {sz : Nat} {rows : List (List D)} {Q : BP} {v : Value} (h : rd w (.lst sz rows) Q v) :
    ∃ aa cap vs, v = .slice aa rows.length cap ∧ (∀ r ∈ rows, r.length = sz) ∧ vs.length = rows.length * sz ∧ (vs = [] ∨ ∃ ad, aa = some ad ∧ ad.spot = none ∧ ∀ (j : Nat) u, vs[j]? = some u → w.cell? (ad.add j) = some u) ∧
      (rows ≠ [] → ∃ ad, aa = some ad) ∧ ∀ (j : Nat) x, rows.flatten[j]? = some x → ∃ u, vs[j]? = some u ∧ rd w x (fun q => Q (j :: q)) u := by
  obtain ⟨aa, cap, hv, hle, hlen, hmem⟩ := h
  rcases hmem with rfl | ⟨ad, arr, elem, fz, rfl, hs, hh, hq, hrw⟩
  · have h1 : rows = [] := List.eq_nil_of_length_eq_zero (by omega)
    subst h1; exact ⟨aa, 0, [], hv, hlen, by simp, .inl rfl, by simp, by simp⟩
  · obtain ⟨b, ao, spot⟩ := ad
    simp only at hs; subst hs
    simp only at hh hrw
    rw [rdRows_flat, rdCs_iff] at hrw
    have hfl := flat_length rows hlen
    have hvl : ((arr.toList.drop ao).take (rows.length * sz)).length = rows.length * sz := by
      rw [List.length_take, Nat.min_eq_left]
      rw [List.length_drop]
      have hal := arr.length_toList
      cases hl : rows.length * sz with
      | zero => omega
      | succ l =>
        have hlt : l < rows.flatten.length := by omega
        obtain ⟨u, hu, _⟩ := hrw l rows.flatten[l] (List.getElem?_eq_getElem hlt)
        have := (Array.getElem?_eq_some_iff.1 hu).1
        omega
    refine ⟨_, cap, (arr.toList.drop ao).take (rows.length * sz), hv, hlen, hvl, .inr ⟨_, rfl, rfl, fun j u hj => ?_⟩, fun _ => ⟨_, rfl⟩, fun j x hj => ?_⟩
    · rw [Addr.add_lit, cell?_at hh]
      rw [List.getElem?_take] at hj
      split at hj
      · simpa using hj
      · simp at hj
    · obtain ⟨u, hu, hr⟩ := hrw j x hj
      simp only [Nat.zero_add] at hu hr
      refine ⟨u, ?_, hr⟩
      rw [List.getElem?_take, if_pos (by rw [← hfl]; exact (List.getElem?_eq_some_iff.1 hj).1), List.getElem?_drop]
      simpa using hu
theorem scalar_rd {w w' : World} {x : D} {Q Q' : BP} {v : Value} (hs : x.scalar = true) (h : rd w x Q v) : rd w' x Q' v ∧ v.oneCell' = true := by
  cases x <;> simp [D.scalar] at hs <;> simp only [rd] at h ⊢ <;> subst h <;> exact ⟨rfl, rfl⟩
theorem grab_sound {c : Cell} {v : Value} {sz : Nat} {rows : List (List D)} {st1 : St} (d : Root) (h : RR ω m st) (hc : ∀ r, CR ω m r v c) (hg : grab st c = some (sz, rows, st1)) :
    ∃ ω', RR ω' m st1 ∧ (∀ b, ω' b = .frame ↔ ω b = .frame) ∧ rd m.w (.lst sz rows) (Qown ω' d []) v ∧
      ∀ q u, clearOf (alOr c) [.al q] = true → hd ω m q u → hd ω' m q u := by
  cases c with
  | al p =>
    simp only [grab] at hg
    obtain ⟨h1, h2⟩ := moveOut_sound d [] h (hc d).1 hg
    refine ⟨_, h1, fun b => relab_frame, h2, fun q u hcl hq => ?_⟩
    have hcl : q.r ≠ p.r ∨ q.p.length ≤ p.p.length := by
      simp only [alOr, clearOf, List.all_cons, List.all_nil, Bool.and_true, Cell.places] at hcl
      rcases (Bool.or_eq_true _ _ ▸ hcl : _ ∨ _) with h | h
      · exact .inl (of_decide_eq_true h)
      · exact .inr (of_decide_eq_true h)
    refine hd_keep (fun v0 h => h) (fun q' hw b x hx hb => ⟨hx, relab_other hb (fun ⟨e, hpre⟩ => ?_)⟩) hq
    rcases hcl with h3 | h3
    · exact h3 e
    · obtain ⟨_, t, ht0, ht⟩ := hw
      have hl := hpre.length_le
      have : q.p.length = q'.length + t.length := by rw [ht, List.length_append]
      have ht1 : 0 < t.length := List.length_pos_iff.2 ht0
      omega
  | own sz' rows' =>
    cases rows' with
    | nil =>
      simp only [grab, Option.some.injEq, Prod.mk.injEq] at hg
      obtain ⟨rfl, rfl, rfl⟩ := hg
      exact ⟨ω, h, fun _ => Iff.rfl, own_nil_any hc, fun q u _ hq => hq⟩
    | cons _ _ => simp [grab] at hg
  | _ => simp [grab] at hg
theorem grab_ne {c : Cell} {x : Nat × List (List D) × St} (h : grab st c = some x) : c ≠ .undef := by intro e; subst e; simp [grab] at h
theorem e_app {d sz bytes : Nat} {t e : TypeId} {i : TypeInfo} {z : Value} {x y : XO} {zx zy : Operand} {nested : Bool} {st' : St} (h : RR ω m st) (ha : a.tmps = m.T) (hd : d < m.T.size)
    (ho : o.op = .call { callee := .builtin .append, args := #[zx, zy], argTypes := #[t, t] }) (hx : mO zx x = true) (hy : mO zy y = true)
    (hu : P.underlying t = some (.slice e)) (hi : P.info? e = some i) (hsz : i.size = sz) (hby : i.bytes = bytes) (hz : i.zero = some z) (hzs : z.cells.size = sz)
    (hs : appSt st d sz bytes x y nested = some st') : EOk P ω m o a d st' := by
  have hex : ∀ v w, (Builtin.append_ #[t, t] o.type #[a.eval zx, a.eval zy]).run P m.w = .ok v w → (execOp a.eval o).run P m.w = .ok (.value v) w := by
    intro v w hr
    simp [execOp, ho, resolve, invoke, builtin, hr]
  unfold appSt at hs
  split at hs
  · rename_i sz' rows st1 hg
    have hcx := fun r => (c1_of h ha hx rfl (grab_ne hg) (fun _ => r)).1
    obtain ⟨ω1, h1, hfr1, hrx, hkeepq⟩ := grab_sound (.slot d 0) h hcx hg
    split at hs
    · rename_i hszz
      subst hszz
      split at hs
      · -- lists in it
        split at hs
        · rename_i q hcy
          split at hs
          · rename_i hclr
            split at hs
            · rename_i sz2 rowsY hrowsY
              split at hs
              · rename_i ds st2 hds
                split at hs
                · rename_i hcond
                  obtain ⟨rfl, hbig, hno⟩ := hcond
                  simp only [Option.some.injEq] at hs; subst hs
                  have hq0 := (c1_of h ha hy hcy (by simp) (fun _ => .res 0)).1.1
                  have hq1 := hkeepq q _ hclr hq0
                  have hrdY := h1.at hrowsY hq1
                  obtain ⟨ay, capy, vs, hvy, hly, hvl, hay, hay0, hel⟩ := rd_vals hrdY
                  have hfl := flat_length rowsY hly
                  have hcr : ∀ (j : Nat) v c, vs[j]? = some v → (toCells q 0 rowsY.flatten)[j]? = some c → ∀ r, CR ω1 m r v c := by
                    intro j v c hv hc r
                    simp only [toCells_get, Option.map_eq_some_iff, Nat.zero_add] at hc
                    obtain ⟨x, hx, rfl⟩ := hc
                    obtain ⟨u, hu, hr⟩ := hel j x hx
                    rw [hv] at hu; injection hu with hu; subst hu
                    have hne : rowsY ≠ [] := by intro e; subst e; simp at hx
                    obtain ⟨ad, cap', arr, elem, fz, hv2, _, hsp, hh, hqq, _, hel2⟩ := rd_flat hrdY hne
                    rw [hv2] at hq1
                    obtain ⟨u2, hu2, hr2⟩ := hel2 j x hx
                    -- the very cell
                    have hcell : u2 = v := by
                      rcases hay with rfl | ⟨ad3, e3, hs3, hc3⟩
                      · simp at hv
                      · rw [hvy, e3] at hv2
                        injection hv2 with e4 _ _; injection e4 with e4; subst e4
                        have := hc3 j v hv
                        obtain ⟨b3, o3, s3⟩ := ad3
                        simp only at hs3; subst hs3
                        rw [Addr.add_lit, cell?_at hh] at this
                        simp only at hu2
                        rw [hu2] at this; injection this
                    subst hcell
                    exact CR_toCell hq1 hsp (by simpa using hqq.1) hh hu2 hr2
                  obtain ⟨ω2, b1, _, b3, b4, b5, b6, b7⟩ := elemDs_sound (p := ⟨.slot d 0, []⟩) (u := undef) _ vs ω1 st1 st2 ds (rows.length * sz2) h1 (by rw [toCells_length, hvl, hfl]) hcr hds
                  rw [toCells_length, hfl] at b5
                  obtain ⟨c1, c2, c3⟩ := chunk_len (sz := sz2) rowsY.length ds b5
                  simp only [okBig, Bool.and_eq_true, decide_eq_true_eq] at hbig
                  have hrx2 : rd m.w (.lst sz2 rows) (Qown ω2 (.slot d 0) []) (a.eval zx) := rd_carry _ _ _ _ (fun q' ad k arr elem fz hh hq => ⟨hh, b4 _ _ hq.1, hq.2⟩) hrx
                  refine EOk.lab hfr1 (EOk.lab b3 (app_core (ty := o.type) (rowsY := chunk sz2 rowsY.length ds) (vs := vs) b1 hd hu hi hsz hby hz hzs hno hrx2 (by rw [c2]; exact hvy) c1 (by rw [c2]; exact hvl) b6 hay (fun hne => hay0 (fun e => hne (by subst e; rfl)))
                    (fun j x v hj hv => ?_) (by rw [c2]; exact hbig.1) (by rw [c2]; exact hbig.2) hex))
                  rw [c3] at hj
                  have := b7 j x v hj hv
                  simpa using this
                · simp at hs
              · simp at hs
            · simp at hs
          · simp at hs
        · simp at hs
      · -- flat
        split at hs
        · rename_i sz2 rowsY hrowsY
          split at hs
          · rename_i hcond
            obtain ⟨rfl, hflat, hbig, hno⟩ := hcond
            simp only [Option.some.injEq] at hs; subst hs
            have hcy := (c1_of h ha hy rfl (rowsOf_ne hrowsY) (fun _ => .res 0)).1
            have hrdY := rowsOf_sound h hcy hrowsY
            obtain ⟨ay, capy, vs, hvy, hly, hvl, hay, hay0, hel⟩ := rd_vals hrdY
            have hfl := flat_length rowsY hly
            simp only [okBig, Bool.and_eq_true, decide_eq_true_eq] at hbig
            have hsc : ∀ (j : Nat) x, rowsY.flatten[j]? = some x → x.scalar = true := by
              intro j x hj
              obtain ⟨r, hr, hx⟩ := List.mem_flatten.1 (List.mem_of_getElem? hj)
              exact List.all_eq_true.1 (List.all_eq_true.1 hflat r hr) x hx
            refine EOk.lab hfr1 (app_core (ty := o.type) (vs := vs) h1 hd hu hi hsz hby hz hzs hno hrx hvy hly hvl (fun v hv => ?_) hay hay0 (fun j x v hj hv => ?_) hbig.1 hbig.2 hex)
            · obtain ⟨j, hj⟩ := List.mem_iff_getElem?.1 hv
              have hlt : j < rowsY.flatten.length := by rw [hfl, ← hvl]; exact (List.getElem?_eq_some_iff.1 hj).1
              obtain ⟨u, hu, hr⟩ := hel j _ (List.getElem?_eq_getElem hlt)
              rw [hj] at hu; injection hu with hu; subst hu
              exact (scalar_rd (w' := m.w) (Q' := Qany) (hsc j _ (List.getElem?_eq_getElem hlt)) hr).2
            · obtain ⟨u, hu, hr⟩ := hel j x hj
              rw [hv] at hu; injection hu with hu; subst hu
              exact (scalar_rd (hsc j x hj) hr).1
          · simp at hs
        · simp at hs
    · simp at hs
  · simp at hs
end
def slcOSt (st : St) (d sz : Nat) (x : XO) (lo hi : Option XO) : Option St :=
  match grab st (evX st x).c1 with
  | some (sz', rows, st1) => match loBound st lo, hiBound st rows.length hi with
    | some l, some h => if sz' = sz ∧ (0 ≤ l ∧ l ≤ h ∧ h ≤ rows.length) ∧ (look st1.sl d).owns = false then some (putSlot st1 d ⟨.one, [.own sz ((rows.take h.toNat).drop l.toNat)]⟩) else none
    | _, _ => none
  | none => none
def shiftLab (ω : Nat → Lab) (d k : Nat) : Nat → Lab := fun b => match ω b with
  | .at r (j :: q) => if r = .slot d 0 ∧ k ≤ j then .at (.slot d 0) ((j - k) :: q) else .at r (j :: q)
  | l => l
section
variable {P : Program} {ω : Nat → Lab} {m : Mc} {st : St} {o : Oper} {a : Act}
theorem shift_frame {d k b : Nat} : shiftLab ω d k b = .frame ↔ ω b = .frame := by
  unfold shiftLab
  split
  · rename_i r j q hb
    rw [hb]
    split <;> simp
  · exact Iff.rfl
theorem shift_other {d k b : Nat} {l : Lab} (h : ω b = l) (hn : ∀ q, l ≠ .at (.slot d 0) q) : shiftLab ω d k b = l := by
  unfold shiftLab
  split
  · rename_i r j q hb
    rw [hb] at h; subst h
    rw [if_neg (fun e => hn _ (by rw [e.1]))]
  · exact h
theorem RR.relabD {d : Nat} {ω' : Nat → Lab} (h : RR ω m st) (hno : (look st.sl d).owns = false) (hl : ∀ b l, ω b = l → (∀ q, l ≠ .at (.slot d 0) q) → ω' b = l) : RR ω' m st := by
  have hnoroot : ∀ i, (rootCell st (.slot d i)).isOwn = false := by
    intro i
    cases hi : (rootCell st (.slot d i)).isOwn with
    | false => rfl
    | true => rw [SV.owns_get (c := i) hi] at hno; simp at hno
  have hrne : ∀ p, (rootCell st p).isOwn = true → ∀ q q', (.at p q : Lab) ≠ .at (.slot d 0) q' := by
    intro p hp q q' e
    injection e with e _
    subst e
    rw [hnoroot 0] at hp; simp at hp
  refine ⟨?_, h.al⟩
  have := h.r.move (m' := m) (ω' := ω') (fun _ => false) (fun s => .inl rfl) rfl
    (fun r v c hc hne _ hcr => hcr.keep (fun b x hx hb => ⟨hx, hl b _ hb (by simp)⟩) (fun ho q b x hx hb => ⟨hx, hl b _ hb (fun q' => hrne r (by rw [hc]; exact ho) q q')⟩) (fun _ _ => rfl)
      (fun p hp => ⟨fun v0 hv0 => hv0, fun q _ b x hx hb => ⟨hx, hl b _ hb (fun q' => hrne p.r (h.al r p (by rw [hc]; exact hp)) q q')⟩⟩))
    (fun k hk => ⟨rfl, fun arr1 elem1 hb1 hh1 => ⟨hh1, hl _ _ hb1 (by simp)⟩⟩)
  rwa [St.filt_false] at this
theorem e_slcO {d sz : Nat} {t e : TypeId} {i : TypeInfo} {x : XO} {zx : Operand} {lo hi : Option XO} {l' h' : Option Operand} {st' : St} (h : RR ω m st) (ha : a.tmps = m.T) (hd : d < m.T.size)
    (ho : o.op = .slice t zx l' h' none) (hx : mO zx x = true) (hl : mOo l' lo = true) (hh : mOo h' hi = true) (hu : P.underlying t = some (.slice e)) (hi' : P.info? e = some i) (hsz : i.size = sz)
    (hs : slcOSt st d sz x lo hi = some st') : EOk P ω m o a d st' := by
  unfold slcOSt at hs
  split at hs
  · rename_i sz' rows st1 hg
    split at hs
    · rename_i n1 n2 h1 h2
      split at hs
      · rename_i hcond
        obtain ⟨rfl, hb, hno⟩ := hcond
        simp only [Option.some.injEq] at hs; subst hs
        have hcx := fun r => (c1_of h ha hx rfl (grab_ne hg) (fun _ => r)).1
        obtain ⟨ω1, hr1, hfr1, hrx, _⟩ := grab_sound (.slot d 0) h hcx hg
        obtain ⟨aa, cap, hv, hle, hlen, hmem⟩ := hrx
        have hrx' : rd m.w (.lst sz' rows) (Qown ω1 (.slot d 0) []) (.slice aa rows.length cap) := by rw [← hv]; exact ⟨aa, cap, hv, hle, hlen, hmem⟩
        have hbd := run_bounds (P := P) (isS := true) (cap := cap) h ha hl hh h1 h2 hb hle
        have hsub := rd_sub (Q' := Qown (shiftLab ω1 d (n1.toNat * sz')) (.slot d 0) []) (l := n1.toNat) (h := n2.toNat) hrx' (by omega) (by omega) (fun _ _ _ _ _ _ _ _ => trivial)
          (fun ad k arr fz hq => by
            obtain ⟨a1, a2, a3⟩ := hq
            refine ⟨?_, a2, ?_⟩
            · simp only [List.append_nil] at a1 ⊢
              simp only [shiftLab, a1]
            · simp only
              have : n1.toNat * sz' + (cap - n1.toNat) * sz' = cap * sz' := by rw [← Nat.add_mul]; congr 1; omega
              omega)
          (fun q ad k arr fz j hq => by
            obtain ⟨a1, a2, a3⟩ := hq
            refine ⟨?_, a2, a3⟩
            simp only [List.nil_append] at a1 ⊢
            simp only [shiftLab, a1]
            rw [if_pos ⟨trivial, by omega⟩]
            congr 2; omega)
        have hr2 := hr1.relabD (ω' := shiftLab ω1 d (n1.toNat * sz')) hno (fun b l hb hn => shift_other hb hn)
        refine EOk.lab hfr1 (EOk.lab (ω' := shiftLab ω1 d (n1.toNat * sz')) (fun b => shift_frame) ?_)
        refine ⟨_, m.w, _, m.rb, ?_, hr2.put (d := d) hd (one_sound rfl hsub) (one_al (by simp [Cell.places])), Tr.put d _⟩
        simp [execOp, ho, Instr.sliceAt, Instr.slice, run_underlying hu, hv, hbd, run_sizeOf hi', hsz]
      · simp at hs
    · simp at hs
  · simp at hs
def buildCells (st : St) : List Cell → List (Nat × Nat × XO) → Option (List Cell)
  | cs, [] => some cs
  | cs, (off, n, x) :: ps => match (evX st x).sh with
    | .one => if (evX st x).cs.length = n ∧ off + n ≤ cs.length then buildCells st (splice cs off (evX st x).cs) ps else none
    | .agg => if (evX st x).cs.length = n ∧ off + n ≤ cs.length then buildCells st (splice cs off (evX st x).cs) ps else none
    | _ => none
end
def mFields (P : Program) (fs : Array Field) : List (Nat × Operand) → List (Nat × Nat × XO) → Bool
  | [], [] => true
  | (i, y) :: ys, (off, n, x) :: xs => (match fs[i]? with
    | some fl => fl.offset == off && (match P.info? fl.type with
      | some inf => inf.size == n
      | none => false)
    | none => false) && mO y x && mFields P fs ys xs
  | _, _ => false
def placesOf (P : Program) (fs : Array Field) : Array (Nat × Nat) := fs.map fun (f : Field) => (f.offset, ((P.info? f.type).map (·.size)).getD 0)
def fieldsKnown (P : Program) (fs : Array Field) : Bool := fs.toList.all fun f => (P.info? f.type).isSome
section
variable {P : Program} {ω : Nat → Lab} {m : Mc} {st : St} {o : Oper} {a : Act}
theorem run_mapM {α β : Type} (f : α → Sem β) (g : α → β) (w : World) : ∀ (l : List α), (∀ x ∈ l, (f x).run P w = .ok (g x) w) → (l.mapM f).run P w = .ok (l.map g) w
  | [], _ => by simp
  | x :: xs, h => by
    simp [List.mapM_cons, h x (by simp), run_mapM f g w xs (fun y hy => h y (by simp [hy]))]
theorem run_places {fs : Array Field} {w : World} (h : fieldsKnown P fs = true) :
    (fs.mapM fun (f : Field) => (do pure (f.offset, ← sizeOf f.type) : Sem (Nat × Nat))).run P w = .ok (placesOf P fs) w := by
  rw [Array.mapM_eq_mapM_toList, Sem.run_map]
  rw [run_mapM (P := P) (fun f : Field => (do pure (f.offset, ← sizeOf f.type) : Sem (Nat × Nat))) (fun f => (f.offset, ((P.info? f.type).map (·.size)).getD 0)) w fs.toList (fun f hf => by
    have := List.all_eq_true.1 h f hf
    obtain ⟨i, hi⟩ := Option.isSome_iff_exists.1 this
    simp [run_sizeOf hi, hi])]
  simp only [placesOf, Result.andThen_ok]; congr 1; apply Array.ext'; simp
theorem build_fill (h : RR ω m st) (ha : a.tmps = m.T) {fs : Array Field} : ∀ (ys : List (Nat × Operand)) (xs : List (Nat × Nat × XO)) (arr : Array Value) (cs cs' : List Cell),
    mFields P fs ys xs = true → (∀ r, CRs ω m r 0 arr.toList cs) → (∀ c ∈ cs, ∀ p ∈ c.places, (rootCell st p.r).isOwn = true) → buildCells st cs xs = some cs' →
    ∃ arr', Instr.fill ((placesOf P fs)[·]?) arr (ys.map fun y => (y.1, a.eval y.2)) = some arr' ∧ (∀ r, CRs ω m r 0 arr'.toList cs') ∧
      (∀ c ∈ cs', ∀ p ∈ c.places, (rootCell st p.r).isOwn = true)
  | [], [], arr, cs, cs', _, hc, hal, hb => by
    simp only [buildCells, Option.some.injEq] at hb; subst hb
    exact ⟨arr, rfl, hc, hal⟩
  | [], _ :: _, _, _, _, hm, _, _, _ => by simp [mFields] at hm
  | _ :: _, [], _, _, _, hm, _, _, _ => by simp [mFields] at hm
  | (i, y) :: ys, (off, n, x) :: xs, arr, cs, cs', hm, hc, hal, hb => by
    simp only [mFields, Bool.and_eq_true] at hm
    obtain ⟨⟨hf, hy⟩, hm⟩ := hm
    have hpl : (placesOf P fs)[i]? = some (off, n) := by
      cases hfi : fs[i]? with
      | none => simp [hfi] at hf
      | some fl =>
        simp only [hfi, Bool.and_eq_true, beq_iff_eq] at hf
        obtain ⟨h1, h2⟩ := hf
        cases hinf : P.info? fl.type with
        | none => simp [hinf] at h2
        | some inf =>
          simp only [hinf, beq_iff_eq] at h2
          simp [placesOf, hfi, h1, hinf, h2]
    have main : ((evX st x).sh = .one ∨ (evX st x).sh = .agg) → (if (evX st x).cs.length = n ∧ off + n ≤ cs.length then buildCells st (splice cs off (evX st x).cs) xs else none) = some cs' →
        ∃ arr', Instr.fill ((placesOf P fs)[·]?) arr ((i, a.eval y) :: ys.map fun y => (y.1, a.eval y.2)) = some arr' ∧ (∀ r, CRs ω m r 0 arr'.toList cs') ∧
          (∀ c ∈ cs', ∀ p ∈ c.places, (rootCell st p.r).isOwn = true) := by
      intro hsh hb
      split at hb
      · rename_i hcond
        obtain ⟨hn, hle⟩ := hcond
        have hv := fun r => CRs_cells (evX_sound h ha hy r) hsh
        have hvl : (a.eval y).cells.toList.length = n := by rw [((CRs_iff _ _ _ _ _ _).1 (hv .res)).1]; exact hn
        have hal' := alOk_mem (sh_ne hsh) (evX_alOk (st := st) h hy)
        have hcl : arr.toList.length = cs.length := ((CRs_iff _ _ _ _ _ _).1 (hc .res)).1
        have hvs : (a.eval y).cells.size = n := by rw [← hvl]; simp
        have hcond : ¬ ((a.eval y).cells.size ≠ n ∨ off + (a.eval y).cells.size > arr.size) := by
          rw [hvs]; simp only [Array.length_toList] at hcl; omega
        have hfold : (a.eval y).cells.zipIdx.foldl (fun (cs : Array Value) (x : Value × Nat) => cs.setIfInBounds (off + x.2) x.1) arr = (arr.toList.take off ++ (a.eval y).cells.toList ++ arr.toList.drop (off + (a.eval y).cells.toList.length)).toArray := by
          rw [← Array.foldl_toList, Array.toList_zipIdx]
          have := foldl_set [] (a.eval y).cells.toList off 0 arr (by rw [hvl]; simp only [Array.length_toList] at hcl; omega)
          simpa using this
        have hspl : ∀ r, CRs ω m r 0 (arr.toList.take off ++ (a.eval y).cells.toList ++ arr.toList.drop (off + (a.eval y).cells.toList.length)) (splice cs off (evX st x).cs) := by
          intro r
          rw [CRs_iff]
          refine ⟨?_, fun j v c hj hc' => ?_⟩
          · rw [splice_length _ _ _ (by rw [hn]; exact hle), ← hcl]
            simp only [List.length_append, List.length_take, List.length_drop, hvl]; omega
          · rw [vsplice_get _ _ _ _ (by rw [hvl, hcl]; exact hle), hvl] at hj
            rw [splice_get _ _ _ _ (by rw [hn]; exact hle), hn] at hc'
            by_cases hjj : off ≤ j ∧ j < off + n
            · rw [if_pos hjj] at hj hc'
              have := ((CRs_iff ω m (fun i => r (off + i)) _ _ 0).1 (hv _)).2 (j - off) v c hj hc'
              simp only [Nat.zero_add] at this ⊢
              rwa [show off + (j - off) = j by omega] at this
            · rw [if_neg hjj] at hj hc'
              exact ((CRs_iff ω m r _ _ 0).1 (hc r)).2 j v c hj hc'
        obtain ⟨arr', h1, h2, h3⟩ := build_fill h ha ys xs (arr.toList.take off ++ (a.eval y).cells.toList ++ arr.toList.drop (off + (a.eval y).cells.toList.length)).toArray _ cs' hm (fun r => by rw [List.toList_toArray]; exact hspl r) (fun c hc' p hp => by
          obtain ⟨j, hj⟩ := List.mem_iff_getElem?.1 hc'
          rw [splice_get _ _ _ _ (by rw [hn]; exact hle)] at hj
          split at hj
          · exact hal' c (List.mem_of_getElem? hj) p hp
          · exact hal c (List.mem_of_getElem? hj) p hp) hb
        refine ⟨arr', ?_, h2, h3⟩
        simp only [Instr.fill, hpl, bne_iff_ne, Bool.or_eq_true, decide_eq_true_eq]
        rw [if_neg (by simpa using hcond)]
        have hf2 : ((a.eval y).cells.zipIdx.foldl (fun cs (x, j) => cs.setIfInBounds (off + j) x) arr) = (arr.toList.take off ++ (a.eval y).cells.toList ++ arr.toList.drop (off + (a.eval y).cells.toList.length)).toArray := hfold
        rw [hf2]
        exact h1
      · simp at hb
    simp only [buildCells] at hb
    simp only [List.map_cons]
    split at hb
    · rename_i hsh; exact main (.inl hsh) hb
    · rename_i hsh; exact main (.inr hsh) hb
    · simp at hb
theorem q_build {t : TypeId} {fs : Array Field} {i : TypeInfo} {z : Value} {ps : Array (Nat × Operand)} {zero cs' : List Cell} {parts : List (Nat × Nat × XO)} (h : RR ω m st) (ha : a.tmps = m.T)
    (ho : o.op = .build t ps) (hu : P.underlying t = some (.struct fs)) (hi : P.info? t = some i) (hz : i.zero = some z) (hzc : constCs z.cells.toList zero = true) (hk : fieldsKnown P fs = true)
    (hm : mFields P fs ps.toList parts = true) (hb : buildCells st zero parts = some cs') : QOk P ω m st o a ⟨.agg, cs'⟩ := by
  obtain ⟨arr', h1, h2, h3⟩ := build_fill (P := P) h ha ps.toList parts z.cells zero cs' hm (fun r => constCs_sound 0 hzc) (fun c hc p hp => by rw [constCs_places hzc c hc] at hp; simp at hp) hb
  refine ⟨.agg arr', ?_, fun r => ⟨⟨arr', rfl⟩, by simpa [flatV] using h2 r⟩, SV.alOk_of h3⟩
  have hpm : (ps.map fun (x : Nat × Operand) => match x with | (i, x) => (i, a.eval x)).toList = ps.toList.map fun y => (y.1, a.eval y.2) := by rw [Array.toList_map]
  rw [← hpm] at h1
  simp only [execOp, ho, Instr.build, Sem.run_bind]
  simp only [zeroValue, typeInfo, Sem.run_bind, run_program, hi, hz, Result.andThen_ok, Sem.run_pure, run_underlying hu]
  have hp := run_places (P := P) (w := m.w) hk
  simp only [bind_pure_comp] at hp ⊢
  simp only [hp, Result.andThen_ok, h1, Sem.run_pure]
end
def argSlots : Nat → List SV → Slots
  | _, [] => []
  | j, x :: xs => (j, x) :: argSlots (j + 1) xs
theorem look_argSlots : ∀ (xs : List SV) (j i : Nat), look (argSlots j xs) i = if j ≤ i then (xs[i - j]?).getD .undef else .undef
  | [], j, i => by simp [argSlots, look]
  | x :: xs, j, i => by
    simp only [argSlots, look, look_argSlots xs (j + 1) i]
    by_cases h : j = i
    · subst h; simp
    · by_cases h2 : j ≤ i
      · rw [if_neg h, if_pos (by omega), if_pos h2, show i - j = (i - (j + 1)) + 1 by omega]; simp
      · rw [if_neg h, if_neg (by omega), if_neg h2]
def Good (P : Program) (f : FuncId) (args : List SV) (rf : Refs) (res : SV) (args' : List SV) (rf' : Refs) : Prop :=
  ∀ (w : World) (ω : Nat → Lab) (rb : Nat → Nat) (vals : Array Value), vals.size = args.length → RR ω ⟨#[], vals, w, rb⟩ ⟨[], rf, argSlots 0 args⟩ →
    Calls P f vals w fun e w' => ∃ v ω', e = .returned v ∧ RR ω' ⟨#[], vals, w', rb⟩ ⟨[], rf', argSlots 0 args'⟩ ∧ (∀ r, r = Root.res → SVR ω' ⟨#[], vals, w', rb⟩ r v res) ∧
      Tr ω ⟨#[], vals, w, rb⟩ ω' ⟨#[], vals, w', rb⟩
def idxOf (k : Nat) : List Nat → Nat → Option Nat
  | [], _ => none
  | x :: xs, j => if x = k then some j else idxOf k xs (j + 1)
abbrev Lents := List (Root × Nat × Nat)
def lentOf (r : Root) : Lents → Option (Nat × Nat)
  | [] => none
  | (r', i, c) :: l => if r' = r then some (i, c) else lentOf r l
def lentAt (i c : Nat) : Lents → Option Root
  | [] => none
  | (r, i', c') :: l => if i' = i ∧ c' = c then some r else lentAt i c l
def badRoot (L : Lents) (refs : List Nat) (r : Root) : Bool := (lentOf r L).isSome || (match r with
  | .ref k _ => (idxOf k refs 0).isSome
  | _ => false)
def fwd (L : Lents) (refs : List Nat) : Lab → Lab
  | .at r q => match lentOf r L with
    | some (i, c) => .at (.gho i c) q
    | none => match r with
      | .ref k c => match idxOf k refs 0 with
        | some j => .at (.ref (KEY + j) c) q
        | none => .frame
      | _ => .frame
  | .blk k => match idxOf k refs 0 with
    | some j => .blk (KEY + j)
    | none => .frame
  | _ => .frame
def bwd (d : Nat) (L : Lents) (refs : List Nat) : Lab → Lab
  | .at r q => match r with
    | .gho i c => match lentAt i c L with
      | some r' => .at r' q
      | none => .junk
    | .ref k c => if KEY ≤ k then (match refs[k - KEY]? with
      | some k' => .at (.ref k' c) q
      | none => .junk) else .junk
    | .res c => .at (.slot d c) q
    | _ => .junk
  | .blk k => if KEY ≤ k then (match refs[k - KEY]? with
      | some k' => .blk k'
      | none => .junk) else .junk
  | _ => .junk
theorem idxOf_get {k : Nat} : ∀ {l : List Nat} {j i : Nat}, idxOf k l j = some i → j ≤ i ∧ l[i - j]? = some k
  | [], j, i, h => by simp [idxOf] at h
  | x :: xs, j, i, h => by
    simp only [idxOf] at h
    split at h
    · rename_i e; simp only [Option.some.injEq] at h; subst h; subst e; simp
    · obtain ⟨h1, h2⟩ := idxOf_get h
      refine ⟨by omega, ?_⟩
      rw [show i - j = (i - (j + 1)) + 1 by omega]; simpa using h2
theorem bad_fwd {L : Lents} {refs : List Nat} {r : Root} (h : badRoot L refs r = false) (q : Path) : fwd L refs (.at r q) = .frame := by
  simp only [badRoot, Bool.or_eq_false_iff] at h
  obtain ⟨h1, h2⟩ := h
  cases hl : lentOf r L with
  | some x => simp [hl] at h1
  | none =>
    simp only [fwd, hl]
    cases r with
    | ref k c =>
      cases hi : idxOf k refs 0 with
      | none => simp [hi]
      | some j => simp [hi] at h2
    | _ => rfl
mutual
def roCell (st : St) (L : Lents) (refs : List Nat) : Cell → Cell
  | .int k n => .int k n
  | .bool b => .bool b
  | .str s => .str s
  | .ro sz rows => .ro sz rows
  | .rov _ sz rows => .ro sz rows
  | .own sz rows => match rows with
    | [] => .own sz []
    | _ => .undef
  | .al p => if badRoot L refs p.r then .undef else (match rowsAt st p with
      | some (sz, rows) => .ro sz rows
      | none => .undef)
  | .ptr k o => match idxOf k refs 0 with
    | some j => .ptr (KEY + j) o
    | none => .undef
  | .rptr ds => .rptr ds
  | .st cs => .st (roCells st L refs cs)
  | .fn f fi ca => .fn f (roCells st L refs fi) (roCells st L refs ca)
  | .undef => .undef
  | .eptr _ _ => .undef
def roCells (st : St) (L : Lents) (refs : List Nat) : List Cell → List Cell
  | [] => []
  | c :: cs => roCell st L refs c :: roCells st L refs cs
end
def argCells (st : St) (L : Lents) (refs : List Nat) (own : Bool) : List Cell → List Cell
  | [] => []
  | c :: cs => (match own, c with
    | true, .al ⟨r, []⟩ => (match rootCell st r with
      | .own sz rows => .own sz rows
      | _ => .undef)
    | _, c => roCell st L refs c) :: argCells st L refs own cs
def lentsOf (st : St) (i : Nat) (own : Bool) : Nat → List Cell → Lents
  | _, [] => []
  | j, c :: cs => (match own, c with
    | true, .al ⟨r, []⟩ => [(r, i, j)]
    | _, _ => []) ++ lentsOf st i own (j + 1) cs
def refCell : Cell → Cell
  | .int k n => .int k n
  | .bool b => .bool b
  | .str s => .str s
  | .own sz rows => .own sz rows
  | .ro sz rows => .ro sz rows
  | .rov u sz rows => .rov u sz rows
  | _ => .undef
def backCell : Cell → Cell
  | .int k n => .int k n
  | .bool b => .bool b
  | .str s => .str s
  | .own sz rows => .own sz rows
  | _ => .undef
open Classical in
noncomputable def backC : Cell → Cell → Cell
  | .rov u sz rows, .rov u' _ _ => if u' = u then .rov u sz rows else .undef
  | _, c => backCell c
noncomputable def backCs : List Cell → List Cell → List Cell
  | _, [] => []
  | [], c' :: cs' => backCell c' :: backCs [] cs'
  | c :: cs, c' :: cs' => backC c c' :: backCs cs cs'
def allLents (st : St) : Nat → List (Bool × SV) → Lents
  | _, [] => []
  | i, (own, x) :: xs => lentsOf st i own 0 x.cs ++ allLents st (i + 1) xs
def callArgs (st : St) (L : Lents) (refs : List Nat) : List (Bool × SV) → List SV
  | [] => []
  | (own, x) :: xs => ⟨x.sh, argCells st L refs own x.cs⟩ :: callArgs st L refs xs
def callRefs (st : St) : Nat → List Nat → Option Refs
  | _, [] => some []
  | j, k :: ks => match lookR st.rf k, callRefs st (j + 1) ks with
    | some cs, some l => some ((KEY + j, cs.map refCell) :: l)
    | _, _ => none
section
variable {P : Program} {ω : Nat → Lab} {m : Mc} {st : St} {o : Oper} {a : Act} {L : Lents} {refs : List Nat}
def calleeM (m : Mc) (refs : List Nat) (vals : Array Value) (w : World) : Mc := ⟨#[], vals, w, fun k => if KEY ≤ k then ((refs[k - KEY]?).map m.rb).getD 0 else 0⟩
theorem rb_callee {vals : Array Value} {w : World} {k j : Nat} (h : idxOf k refs 0 = some j) : (calleeM m refs vals w).rb (KEY + j) = m.rb k := by
  obtain ⟨_, h2⟩ := idxOf_get h
  simp only [Nat.sub_zero] at h2
  simp [calleeM, h2]
theorem roCell_noown (c : Cell) (h : c.isOwn = false) : (roCell st L refs c).isOwn = false := by
  cases c with
  | own sz rows => simp [Cell.isOwn] at h
  | al p => simp only [roCell]; split; rfl; split <;> rfl
  | ptr k o => simp only [roCell]; split <;> rfl
  | _ => rfl
mutual
theorem roCell_sound (h : RR ω m st) (vals : Array Value) : ∀ (c : Cell) (r r' : Root) (v : Value), (∀ r, CRx ω m c r v) → CRx (fun b => fwd L refs (ω b)) (calleeM m refs vals m.w) (roCell st L refs c) r' v
  | .undef, _, _, _, _ => trivial
  | .int k n, r, _, _, hc => hc r
  | .bool b, r, _, _, hc => hc r
  | .str s, r, _, _, hc => hc r
  | .own sz rows, r, r', v, hc => by
    cases rows with
    | nil => exact own_nil_any hc
    | cons _ _ => trivial
  | .ro sz rows, r, _, v, hc => rd_carry _ _ _ _ (fun q ad k arr elem fz hh hq => ⟨hh, by
      simp only [Qro] at hq ⊢; rw [hq]; rfl⟩) (hc r)
  | .rov u sz rows, r, _, v, hc => by
    obtain ⟨rfl, h2⟩ := hc r
    exact rd_carry _ _ _ _ (fun q ad k arr elem fz hh hq => ⟨hh, by simp only [Qro] at hq ⊢; rw [hq]; rfl⟩) h2
  | .al p, r, r', v, hc => by
    simp only [roCell]
    split
    · trivial
    · rename_i hb
      split
      · rename_i sz rows hrows
        have hrd := h.at hrows (hc r).1
        refine rd_carry _ _ _ _ (fun q ad k arr elem fz hh hq => ⟨hh, ?_⟩) hrd
        simp only [Qro]
        rw [hq.1]; exact bad_fwd (by simpa using hb) _
      · trivial
  | .ptr k o, r, r', v, hc => by
    simp only [roCell]
    split
    · rename_i j hj
      simp only [CRx, ptrV]
      rw [rb_callee hj]; exact hc r
    · trivial
  | .eptr p o, _, _, _, _ => trivial
  | .rptr ds, r, r', v, hc => by
    obtain ⟨b, o, arr, elem, fz, h1, h2, h3, h4⟩ := hc r
    refine ⟨b, o, arr, elem, fz, h1, h2, by simp only [h3]; rfl, rdCs_carry _ _ _ _ _ _ (fun q ad k arr elem fz hh hq => ⟨hh, by simp only [Qro] at hq ⊢; rw [hq]; rfl⟩) h4⟩
  | .st cs, r, r', v, hc => by
    obtain ⟨arr, h1, h2⟩ := hc r
    exact ⟨arr, h1, roCells_sound h vals cs r r' _ h2⟩
  | .fn f fi ca, r, r', v, hc => by
    obtain ⟨fv, cv, h1, h2, h3⟩ := hc r
    exact ⟨fv, cv, h1, roCells_sound h vals fi r r' _ h2, roCells_sound h vals ca r r' _ h3⟩
theorem roCells_sound (h : RR ω m st) (vals : Array Value) : ∀ (cs : List Cell) (r r' : Root) (vs : List Value), CRl ω m cs r vs → CRl (fun b => fwd L refs (ω b)) (calleeM m refs vals m.w) (roCells st L refs cs) r' vs
  | [], _, _, _, hc => hc
  | c :: cs, r, r', vs, hc => by
    obtain ⟨v, rest, h1, h2, h3, h4⟩ := hc
    refine ⟨v, rest, h1, ?_, roCell_sound h vals c r r' v (fun r2 => CRx_root c r r2 v h2 h3), roCells_sound h vals cs r r' rest h4⟩
    exact roCell_noown c h2
end
end
def rootsNodup : Lents → Bool
  | [] => true
  | (r, _, _) :: l => !(lentOf r l).isSome && rootsNodup l
def natsNodup : List Nat → Bool
  | [] => true
  | x :: xs => !xs.contains x && natsNodup xs
def lentsOk (L : Lents) (refs : List Nat) : Bool := rootsNodup L && natsNodup refs && L.all fun x => match x.1 with
  | .ref k _ => !(idxOf k refs 0).isSome
  | _ => true
section
variable {P : Program} {ω : Nat → Lab} {m : Mc} {st : St} {o : Oper} {a : Act} {L : Lents} {refs : List Nat}
theorem lentOf_mem : ∀ {L : Lents} {r : Root} {i c : Nat}, lentOf r L = some (i, c) → (r, i, c) ∈ L
  | (r', i', c') :: l, r, i, c, h => by
    simp only [lentOf] at h
    split at h
    · rename_i e; simp only [Option.some.injEq, Prod.mk.injEq] at h; obtain ⟨rfl, rfl⟩ := h; subst e; simp
    · exact List.mem_cons_of_mem _ (lentOf_mem h)
theorem lentOf_nodup : ∀ {L : Lents} {r : Root} {i c : Nat}, rootsNodup L = true → (r, i, c) ∈ L → lentOf r L = some (i, c)
  | (r', i', c') :: l, r, i, c, hn, h => by
    simp only [rootsNodup, Bool.and_eq_true, Bool.not_eq_true'] at hn
    simp only [lentOf]
    rcases List.mem_cons.1 h with h | h
    · injection h with h1 h2; injection h2 with h2 h3; subst h1; subst h2; subst h3; simp
    · have := lentOf_nodup hn.2 h
      split
      · rename_i e; subst e; rw [this] at hn; simp at hn
      · exact this
theorem idxOf_nodup {k : Nat} : ∀ {l : List Nat} {j i : Nat}, natsNodup l = true → l[i]? = some k → idxOf k l j = some (j + i)
  | [], j, i, _, h => by simp at h
  | x :: xs, j, i, hn, h => by
    simp only [natsNodup, Bool.and_eq_true, Bool.not_eq_true'] at hn
    simp only [idxOf]
    cases i with
    | zero => simp at h; simp [h]
    | succ i =>
      simp only [List.getElem?_cons_succ] at h
      have hm := List.mem_of_getElem? h
      have hne : x ≠ k := by intro e; subst e; simp [hm] at hn
      rw [if_neg hne, idxOf_nodup hn.2 h]; congr 1; omega
theorem lentsOk_refs (hok : lentsOk L refs = true) {k c : Nat} (hk : (idxOf k refs 0).isSome = true) : lentOf (.ref k c) L = none := by
  simp only [lentsOk, Bool.and_eq_true] at hok
  cases hl : lentOf (.ref k c) L with
  | none => rfl
  | some x =>
    obtain ⟨i, j⟩ := x
    have := List.all_eq_true.1 hok.2 _ (lentOf_mem hl)
    simp only [Bool.not_eq_true'] at this
    rw [hk] at this; simp at this
theorem argCells_sound (h : RR ω m st) (hok : lentsOk L refs = true) (vals : Array Value) {i : Nat} {own : Bool} : ∀ (cs : List Cell) (vs : List Value) (j : Nat), (∀ x ∈ lentsOf st i own j cs, x ∈ L) →
    (∀ r, CRs ω m r j vs cs) → CRs (fun b => fwd L refs (ω b)) (calleeM m refs vals m.w) (.gho i) j vs (argCells st L refs own cs)
  | [], [], j, _, _ => trivial
  | [], _ :: _, j, _, hc => by have := hc .res; simp [CRs] at this
  | _ :: _, [], j, _, hc => by have := hc .res; simp [CRs] at this
  | c :: cs, v :: vs, j, hL, hc => by
    have hrest := argCells_sound h hok vals (i := i) (own := own) cs vs (j + 1) (fun x hx => hL x (by simp only [lentsOf, List.mem_append]; exact .inr hx)) (fun r => (hc r).2)
    have hcc : ∀ r, CRx ω m c r v := fun r => (hc (fun _ => r)).1
    refine ⟨?_, hrest⟩
    have plain : CRx (fun b => fwd L refs (ω b)) (calleeM m refs vals m.w) (roCell st L refs c) (.gho i j) v := roCell_sound h vals c (.res 0) _ v hcc
    cases own with
    | false => exact plain
    | true =>
      cases c with
      | al p =>
        obtain ⟨r, p⟩ := p
        cases p with
        | cons _ _ => exact plain
        | nil =>
          simp only
          split
          · rename_i sz rows hroot
            have hmem : (r, i, j) ∈ L := hL _ (by simp [lentsOf])
            simp only [lentsOk, Bool.and_eq_true] at hok
            have hlo := lentOf_nodup hok.1.1 hmem
            have hrd := h.at (p := ⟨r, []⟩) (v := v) (sz := sz) (rows := rows) (by simp [rowsAt, hroot, pathRows]) (hcc (.res 0)).1
            exact rd_carry _ _ _ _ (fun q ad k arr elem fz hh hq => ⟨hh, by
              obtain ⟨a1, a2, a3⟩ := hq
              refine ⟨?_, a2, a3⟩
              simp only [List.nil_append] at a1 ⊢
              simp only [a1, fwd, hlo]⟩) hrd
          · trivial
      | _ => exact plain
theorem callArgs_get : ∀ (xs : List (Bool × SV)) (i : Nat), (callArgs st L refs xs)[i]? = (xs[i]?).map fun x => ⟨x.2.sh, argCells st L refs x.1 x.2.cs⟩
  | [], i => by simp [callArgs]
  | (own, x) :: xs, i => by
    cases i with
    | zero => simp [callArgs]
    | succ i => simp [callArgs, callArgs_get xs i]
theorem allLents_mem : ∀ (xs : List (Bool × SV)) (j i : Nat) (own : Bool) (x : SV), xs[i]? = some (own, x) → ∀ y ∈ lentsOf st (j + i) own 0 x.cs, y ∈ allLents st j xs
  | [], j, i, own, x, h, _, _ => by simp at h
  | (o', x') :: xs, j, i, own, x, h, y, hy => by
    simp only [allLents, List.mem_append]
    cases i with
    | zero => simp at h; obtain ⟨rfl, rfl⟩ := h; exact .inl hy
    | succ i =>
      simp only [List.getElem?_cons_succ] at h
      exact .inr (allLents_mem xs (j + 1) i own x h y (by rwa [show j + 1 + i = j + (i + 1) by omega]))
theorem callRefs_get : ∀ {refs : List Nat} {j : Nat} {rf : Refs}, callRefs st j refs = some rf → ∀ (k' : Nat) cs', lookR rf k' = some cs' →
    ∃ i k cs, k' = KEY + (j + i) ∧ refs[i]? = some k ∧ lookR st.rf k = some cs ∧ cs' = cs.map refCell
  | [], j, rf, h, k', cs', hl => by simp only [callRefs, Option.some.injEq] at h; subst h; simp [lookR] at hl
  | k :: ks, j, rf, h, k', cs', hl => by
    simp only [callRefs] at h
    split at h
    · rename_i cs l h1 h2
      simp only [Option.some.injEq] at h; subst h
      simp only [lookR] at hl
      split at hl
      · rename_i e; simp only [Option.some.injEq] at hl; exact ⟨0, k, cs, by omega, rfl, h1, hl.symm⟩
      · obtain ⟨i, k2, cs2, e1, e2, e3, e4⟩ := callRefs_get h2 k' cs' hl
        exact ⟨i + 1, k2, cs2, by omega, by simpa using e2, e3, e4⟩
    · simp at h
theorem argCells_places (own : Bool) : ∀ (cs : List Cell), ∀ c ∈ argCells st L refs own cs, c.places = [] ∨ True := fun _ _ _ => .inr trivial
mutual
theorem roCell_places : ∀ (c : Cell), (roCell st L refs c).places = []
  | .undef => rfl
  | .int _ _ => rfl
  | .bool _ => rfl
  | .str _ => rfl
  | .own sz rows => by cases rows <;> rfl
  | .ro _ _ => rfl
  | .rov _ _ _ => rfl
  | .al p => by simp only [roCell]; split; rfl; split <;> rfl
  | .ptr k o => by simp only [roCell]; split <;> rfl
  | .eptr _ _ => rfl
  | .rptr _ => rfl
  | .st cs => by simp only [roCell, Cell.places]; exact roCells_places cs
  | .fn f fi ca => by simp only [roCell, Cell.places, roCells_places fi, roCells_places ca, List.append_nil]
theorem roCells_places : ∀ (cs : List Cell), placesL (roCells st L refs cs) = []
  | [] => rfl
  | c :: cs => by simp only [roCells, placesL, roCell_places c, roCells_places cs, List.append_nil]
end
theorem argCells_noplaces (own : Bool) : ∀ (cs : List Cell), ∀ c ∈ argCells st L refs own cs, c.places = []
  | [], _, h => by simp [argCells] at h
  | c :: cs, d, h => by
    simp only [argCells] at h
    rcases List.mem_cons.1 h with rfl | h
    · split
      · split <;> rfl
      · exact roCell_places c
    · exact argCells_noplaces own cs d h
theorem start_sound {args : List (Bool × SV)} {vals : Array Value} {rf : Refs} (h : RR ω m st) (hsz : vals.size = args.length)
    (hv : ∀ i own x, args[i]? = some (own, x) → ∀ r, SVR ω m r (vals.getD i undef) x) (hL : L = allLents st 0 args)
    (hok : lentsOk L refs = true) (hrf : callRefs st 0 refs = some rf) :
    vals.size = (callArgs st L refs args).length ∧
    RR (fun b => fwd L refs (ω b)) (calleeM m refs vals m.w) ⟨[], rf, argSlots 0 (callArgs st L refs args)⟩ := by
  have hcal : ∀ (xs : List (Bool × SV)), (callArgs st L refs xs).length = xs.length := by
    intro xs
    induction xs with
    | nil => rfl
    | cons x xs ih => obtain ⟨o, x⟩ := x; simp [callArgs, ih]
  refine ⟨by simp [hcal, hsz], ?_⟩
  have hnd : natsNodup refs = true := by simp only [lentsOk, Bool.and_eq_true] at hok; exact hok.1.2
  refine ⟨⟨fun s => SVR_no rfl, fun i => ?_, fun k' cs' hk => ?_⟩, fun r p hp => ?_⟩
  · simp only [look_argSlots, Nat.zero_le, if_true, Nat.sub_zero, callArgs_get]
    cases hx : args[i]? with
    | none => simp only [Option.map_none, Option.getD_none]; exact SVR_no rfl
    | some x =>
      obtain ⟨own, x⟩ := x
      have hv' : (calleeM m refs vals m.w).G.getD i undef = vals.getD i undef := rfl
      rw [hv']
      simp only [Option.map_some, Option.getD_some]
      by_cases hs : x.sh = .no
      · exact SVR_no hs
      · have hev := fun r => (SVR_iff hs).1 (hv i own x hx r)
        refine (SVR_iff (x := ⟨x.sh, argCells st L refs own x.cs⟩) hs).2 ⟨(hev .res).1, ?_⟩
        exact argCells_sound h hok _ _ _ 0 (fun y hy => by rw [hL]; exact allLents_mem args 0 i own x hx y (by simpa using hy)) (fun r => (hev r).2)
  · obtain ⟨i, k, cs, rfl, h2, h3, rfl⟩ := callRefs_get hrf k' cs' hk
    have hidx : idxOf k refs 0 = some i := by simpa using idxOf_nodup (j := 0) hnd h2
    obtain ⟨arr, elem, h4, h5, h6⟩ := h.r.rf k cs h3
    simp only [Nat.zero_add] at hk ⊢
    have hrb := rb_callee (m := m) (vals := vals) (w := m.w) hidx
    rw [hrb]
    refine ⟨arr, elem, h4, by simp [h5, fwd, hidx], ?_⟩
    rw [CRs_iff] at h6 ⊢
    refine ⟨by simpa using h6.1, fun j v c hv hc => ?_⟩
    simp only [List.getElem?_map, Option.map_eq_some_iff] at hc
    obtain ⟨c0, hc0, rfl⟩ := hc
    have hcr := h6.2 j v c0 hv hc0
    simp only [Nat.zero_add] at hcr ⊢
    cases c0 with
    | own sz rows =>
      refine rd_carry _ _ _ _ (fun q ad k2 arr2 elem2 fz hh hq => ⟨hh, ?_⟩) hcr
      obtain ⟨a1, a2, a3⟩ := hq
      refine ⟨?_, a2, a3⟩
      simp only [List.nil_append] at a1 ⊢
      simp only [a1, fwd, lentsOk_refs hok (k := k) (c := j) (by rw [hidx]; rfl), hidx]
    | ro sz rows => exact rd_carry _ _ _ _ (fun q ad k2 arr2 elem2 fz hh hq => ⟨hh, by simp only [Qro] at hq ⊢; rw [hq]; rfl⟩) hcr
    | rov u sz rows => exact ⟨hcr.1, rd_carry _ _ _ _ (fun q ad k2 arr2 elem2 fz hh hq => ⟨hh, by simp only [Qro] at hq ⊢; rw [hq]; rfl⟩) hcr.2⟩
    | int k n => exact hcr
    | bool b => exact hcr
    | str s => exact hcr
    | _ => trivial
  · exfalso
    cases r with
    | slot s c => simp [rootCell, look, SV.get, Cell.places] at hp
    | res c => simp [rootCell, Cell.places] at hp
    | gho i c =>
      simp only [rootCell, look_argSlots, Nat.zero_le, if_true, Nat.sub_zero, callArgs_get] at hp
      cases hx : args[i]? with
      | none => simp [hx, SV.get, Cell.places] at hp
      | some x =>
        simp only [hx, Option.map_some, Option.getD_some] at hp
        by_cases hu : SV.get (⟨x.2.sh, argCells st L refs x.1 x.2.cs⟩ : SV) c = .undef
        · rw [hu] at hp; simp [Cell.places] at hp
        · have := argCells_noplaces (st := st) (L := L) (refs := refs) x.1 _ _ (SV.get_mem hu)
          rw [this] at hp; simp at hp
    | ref k c =>
      simp only [rootCell] at hp
      cases hl : lookR rf k with
      | none => simp [hl, Cell.places] at hp
      | some cs' =>
        obtain ⟨i, k0, cs, _, _, _, rfl⟩ := callRefs_get hrf k cs' hl
        simp only [hl, List.getElem?_map] at hp
        cases hc : cs[c]? with
        | none => simp [hc, Cell.places] at hp
        | some c0 =>
          simp only [hc, Option.map_some, Option.getD_some] at hp
          cases c0 <;> simp [refCell, Cell.places] at hp
end
def hitL (L : Lents) (refs : List Nat) (c : Cell) : Bool := c.places.any fun p => badRoot L refs p.r
def dropL : Lents → St → St
  | [], s => s
  | (r, _, _) :: l, s => dropL l (setRoot s r .undef)
def backL (args' : List SV) : Lents → St → St
  | [], s => s
  | (r, i, c) :: l, s => backL args' l (setRoot s r (backCell (((args'[i]?).getD .undef).get c)))
noncomputable def backR (refs : List Nat) (rf' : Refs) : Refs → Refs
  | [] => []
  | (k, cs) :: l => (match idxOf k refs 0 with
    | some j => (k, match lookR rf' (KEY + j) with
      | some cs' => backCs cs cs'
      | none => cs)
    | none => (k, cs)) :: backR refs rf' l
def delL (refs : List Nat) : Refs → Refs
  | [] => []
  | (k, cs) :: l => if (idxOf k refs 0).isSome then delL refs l else (k, cs) :: delL refs l
def SV.fresh (x : SV) : Bool := x.cs.all fun c => match c with
  | .int _ _ => true
  | .bool _ => true
  | .str _ => true
  | .own _ _ => true
  | _ => false
noncomputable def afterSt (st : St) (L : Lents) (refs : List Nat) (args' : List SV) (rf' : Refs) : St :=
  match L, refs with
  | [], [] => st
  | _, _ =>
    let s1 := (dropL L st).filt (hitL L refs)
    backL args' L { s1 with rf := backR refs rf' s1.rf }
section
variable {P : Program} {ω : Nat → Lab} {m : Mc} {st : St} {o : Oper} {a : Act} {L : Lents} {refs : List Nat}
theorem lookR_backR {rf' : Refs} : ∀ (l : Refs) (k : Nat), lookR (backR refs rf' l) k = match lookR l k with
    | some cs => match idxOf k refs 0 with
      | some j => match lookR rf' (KEY + j) with
        | some cs' => some (backCs cs cs')
        | none => some cs
      | none => some cs
    | none => none
  | [], k => rfl
  | (k', cs) :: l, k => by
    simp only [backR]
    have ih := lookR_backR (rf' := rf') l k
    by_cases h : k' = k
    · subst h
      cases hi : idxOf k' refs 0 with
      | none => simp [lookR]
      | some j => simp only [lookR, if_true]; cases lookR rf' (KEY + j) <;> rfl
    · cases hi : idxOf k' refs 0 with
      | none => simp only [lookR, h, if_false]; exact ih
      | some j => simp only [lookR, h, if_false]; exact ih
theorem lookR_delL : ∀ (l : Refs) (k : Nat), lookR (delL refs l) k = if (idxOf k refs 0).isSome then none else lookR l k
  | [], k => by simp [delL, lookR]
  | (k', cs) :: l, k => by
    have ih := lookR_delL l k
    simp only [delL]
    by_cases h : k' = k
    · subst h
      by_cases h2 : (idxOf k' refs 0).isSome = true
      · simp only [h2, if_true, ih]
      · simp [h2, lookR]
    · by_cases h2 : (idxOf k' refs 0).isSome = true
      · simp only [h2, if_true, lookR, h, if_false]; exact ih
      · simp only [h2, Bool.false_eq_true, if_false, lookR, h, if_false]; exact ih
theorem R_dropL : ∀ {L : Lents} {s : St}, R ω m s → R ω m (dropL L s)
  | [], _, h => h
  | (r, _, _) :: l, _, h => by simp only [dropL]; exact R_dropL (h.drop r)
theorem dropL_root : ∀ {L : Lents} {s : St} {r : Root}, (lentOf r L).isSome = false → rootCell (dropL L s) r = rootCell s r
  | [], _, _, _ => rfl
  | (r', i, c) :: l, s, r, h => by
    simp only [lentOf] at h
    split at h
    · simp at h
    · rename_i hne
      simp only [dropL]
      rw [dropL_root h, rootCell_setRoot, if_neg (fun e => hne e.1)]
theorem rootCell_dropL : ∀ {L : Lents} {s : St} {r : Root}, rootCell (dropL L s) r ≠ .undef → rootCell (dropL L s) r = rootCell s r ∧ (lentOf r L).isSome = false
  | [], s, r, h => ⟨rfl, rfl⟩
  | (r', i, c) :: l, s, r, h => by
    simp only [dropL] at h ⊢
    obtain ⟨h1, h2⟩ := rootCell_dropL h
    rw [h1] at h ⊢
    rw [rootCell_setRoot] at h ⊢
    split at h
    · exact absurd rfl h
    · rename_i hh
      rw [if_neg hh]
      refine ⟨rfl, ?_⟩
      simp only [lentOf]
      split
      · rename_i e
        subst e
        have : hasRoot s r' = true := hasRoot_of_cell h
        exact absurd ⟨rfl, this⟩ hh
      · exact h2
theorem sl_dropL : ∀ {L : Lents} {s : St}, (∀ k, (lookR (dropL L s).rf k).isSome = (lookR s.rf k).isSome)
  | [], s, k => rfl
  | (r, _, _) :: l, s, k => by
    simp only [dropL]
    rw [sl_dropL k]
    cases r with
    | ref k' c => simp only [setRoot, lookR_updR]; split <;> cases lookR s.rf k <;> rfl
    | _ => rfl
theorem R_backL {args' : List SV} : ∀ {L : Lents} {s : St}, R ω m s → (∀ r i c, (r, i, c) ∈ L → ∀ v, hdR m r = some v → CR ω m r v (backCell (((args'[i]?).getD .undef).get c))) → R ω m (backL args' L s)
  | [], _, h, _ => h
  | (r, i, c) :: l, _, h, hx => by simp only [backL]; exact R_backL (h.setRoot (hx r i c (by simp))) (fun r' i' c' hm => hx r' i' c' (by simp [hm]))
theorem backCell_places (c : Cell) : (backCell c).places = [] := by cases c <;> rfl
theorem backC_cases (c c' : Cell) : backC c c' = backCell c' ∨ (∃ u sz rows sz' rows', c = .rov u sz rows ∧ c' = .rov u sz' rows' ∧ backC c c' = .rov u sz rows) ∨ backC c c' = .undef := by
  unfold backC
  split
  · split
    · rename_i e; subst e; exact .inr (.inl ⟨_, _, _, _, _, rfl, rfl, rfl⟩)
    · exact .inr (.inr rfl)
  · exact .inl rfl
theorem backC_places (c c' : Cell) : (backC c c').places = [] := by
  rcases backC_cases c c' with h | ⟨_, _, _, _, _, _, _, h⟩ | h
  · rw [h]; exact backCell_places c'
  · rw [h]; rfl
  · rw [h]; rfl
theorem backC_undef (c : Cell) : backC .undef c = backCell c := rfl
theorem backCs_get : ∀ (cs cs' : List Cell) (i : Nat), (backCs cs cs')[i]? = (cs'[i]?).map (backC ((cs[i]?).getD .undef))
  | _, [], i => by simp [backCs]
  | [], c' :: cs', i => by
    cases i with
    | zero => simp [backCs, backC_undef]
    | succ i => simp only [backCs, List.getElem?_cons_succ, backCs_get [] cs' i]; simp
  | c :: cs, c' :: cs', i => by
    cases i with
    | zero => simp [backCs]
    | succ i => simp only [backCs, List.getElem?_cons_succ, backCs_get cs cs' i]
theorem backCs_length : ∀ (cs cs' : List Cell), (backCs cs cs').length = cs'.length
  | _, [] => rfl
  | [], c' :: cs' => by simp [backCs, backCs_length [] cs']
  | c :: cs, c' :: cs' => by simp [backCs, backCs_length cs cs']
theorem backL_places {args' : List SV} : ∀ {L : Lents} {s : St} {r : Root} {p : Pl}, p ∈ (rootCell (backL args' L s) r).places → p ∈ (rootCell s r).places
  | [], _, _, _, h => h
  | (r', i, c) :: l, s, r, p, h => by
    simp only [backL] at h
    have := backL_places h
    rw [rootCell_setRoot] at this
    split at this
    · rw [backCell_places] at this; simp at this
    · exact this
theorem backL_root {args' : List SV} : ∀ {L : Lents} {s : St} {r : Root}, (lentOf r L).isSome = false → rootCell (backL args' L s) r = rootCell s r
  | [], _, _, _ => rfl
  | (r', i, c) :: l, s, r, h => by
    simp only [lentOf] at h
    split at h
    · simp at h
    · rename_i hne
      simp only [backL]
      rw [backL_root h, rootCell_setRoot, if_neg (fun e => hne e.1)]
theorem lentAt_of : ∀ {L : Lents} {r : Root} {i c : Nat}, (r, i, c) ∈ L → ∃ r', lentAt i c L = some r'
  | (r', i', c') :: l, r, i, c, h => by
    simp only [lentAt]
    by_cases e : i' = i ∧ c' = c
    · exact ⟨r', by rw [if_pos e]⟩
    · rw [if_neg e]
      rcases List.mem_cons.1 h with h | h
      · injection h with h1 h2; injection h2 with h2 h3; exact absurd ⟨h2.symm, h3.symm⟩ e
      · exact lentAt_of h
def cellsNodup : Lents → Bool
  | [] => true
  | (_, i, c) :: l => !(lentAt i c l).isSome && cellsNodup l
theorem lentAt_nodup : ∀ {L : Lents} {r : Root} {i c : Nat}, cellsNodup L = true → (r, i, c) ∈ L → lentAt i c L = some r
  | (r', i', c') :: l, r, i, c, hn, h => by
    simp only [cellsNodup, Bool.and_eq_true, Bool.not_eq_true'] at hn
    simp only [lentAt]
    rcases List.mem_cons.1 h with h | h
    · injection h with h1 h2; injection h2 with h2 h3; subst h1; subst h2; subst h3; simp
    · have := lentAt_nodup hn.2 h
      split
      · rename_i e; obtain ⟨rfl, rfl⟩ := e; rw [this] at hn; simp at hn
      · exact this
def backLab (ω ω' : Nat → Lab) (w : World) (d : Nat) (L : Lents) (refs : List Nat) : Nat → Lab := fun b =>
  if (w.heap[b]?).isSome = true ∧ fwd L refs (ω b) = .frame then ω b else bwd d L refs (ω' b)
theorem after_sound {d : Nat} {res : SV} {args' : List SV} {rf rf' : Refs} {vals : Array Value} {w' : World} {ω' : Nat → Lab} {v : Value} (h : RR ω m st)
    (hok : lentsOk L refs = true) (hcn : cellsNodup L = true) (hfresh : res.fresh = true)
    (hval : ∀ r i c, (r, i, c) ∈ L → hdR m r = (flatV (vals.getD i undef))[c]?) (hLown : ∀ r i c, (r, i, c) ∈ L → (rootCell st r).isOwn = true)
    (hrf : callRefs st 0 refs = some rf) (hrf' : ∀ j, j < refs.length → (lookR rf' (KEY + j)).isSome = true)
    (hR : RR ω' (calleeM m refs vals w') ⟨[], rf', argSlots 0 args'⟩) (hres : SVR ω' (calleeM m refs vals w') .res v res)
    (hT : Tr (fun b => fwd L refs (ω b)) (calleeM m refs vals m.w) ω' (calleeM m refs vals w')) :
    RR (backLab ω ω' m.w d L refs) { m with w := w' } (afterSt st L refs args' rf') ∧ SVR (backLab ω ω' m.w d L refs) { m with w := w' } (.slot d) v res ∧
    (∀ s, res.alOk s) ∧ Tr ω m (backLab ω ω' m.w d L refs) { m with w := w' } := by
  have hnd : natsNodup refs = true := by simp only [lentsOk, Bool.and_eq_true] at hok; exact hok.1.2
  -- what is kept
  have hkeep : ∀ l, fwd L refs l = .frame → Stay ω (backLab ω ω' m.w d L refs) m.w w' l := by
    intro l hl b x hx hb
    obtain ⟨h1, h2⟩ := hT.fr b x hx (by simp only [hb, hl])
    refine ⟨h1, ?_⟩
    unfold backLab
    rw [if_pos ⟨by rw [hx]; rfl, by rw [hb, hl]⟩]; exact hb
  -- what the callee had
  have hback : ∀ (b : Nat) (x : Obj), w'.heap[b]? = some x → ∀ l, ω' b = l → l ≠ .frame → backLab ω ω' m.w d L refs b = bwd d L refs l := by
    intro b x hx l hl hne
    unfold backLab
    rw [if_neg, hl]
    rintro ⟨h1, h2⟩
    obtain ⟨y, hy⟩ := Option.isSome_iff_exists.1 h1
    have := (hT.fr b y hy h2).2
    rw [hl] at this; exact hne this
  have hTr : Tr ω m (backLab ω ω' m.w d L refs) { m with w := w' } := ⟨hT.os, hT.tape, hT.output, hT.size, hkeep .frame rfl, rfl, rfl, fun _ _ => rfl⟩
  -- the parts that were not lent
  have hplace : ∀ (p : Pl), badRoot L refs p.r = false → (∀ v0, hdR m p.r = some v0 → (rootCell st p.r).isOwn = true → hdR { m with w := w' } p.r = some v0) := by
    intro p hp v0 hv0 ho
    cases hr : p.r with
    | slot _ _ => rw [hr] at hv0; exact hv0
    | gho _ _ => rw [hr] at hv0; exact hv0
    | res _ => rw [hr] at hv0; exact hv0
    | ref k c =>
      rw [hr] at hv0 hp ho
      have hsome : ∃ cs', lookR st.rf k = some cs' := by
        simp only [rootCell] at ho
        cases hl : lookR st.rf k with
        | none => simp [hl, Cell.isOwn] at ho
        | some cs' => exact ⟨cs', rfl⟩
      obtain ⟨cs', hcs'⟩ := hsome
      obtain ⟨arr, elem, h1, h2, _⟩ := h.r.rf k cs' hcs'
      simp only [badRoot, Bool.or_eq_false_iff] at hp
      have hnone : idxOf k refs 0 = none := by
        cases hi : idxOf k refs 0 with
        | none => rfl
        | some j => simp [hi] at hp
      have h3 := (hkeep (.blk k) (by simp [fwd, hnone]) _ _ h1 h2).1
      simp only [hdR] at hv0 ⊢
      rw [h1] at hv0
      rw [h3]; exact hv0
  have hR0 : R ω m { (dropL L st) with rf := delL refs (dropL L st).rf } := by
    have := R_dropL (L := L) h.r
    refine ⟨this.sl, this.gh, fun k cs hk => ?_⟩
    simp only [lookR_delL] at hk
    split at hk
    · simp at hk
    · exact this.rf k cs hk
  have hroot0 : ∀ r, rootCell { (dropL L st) with rf := delL refs (dropL L st).rf } r ≠ .undef → rootCell { (dropL L st) with rf := delL refs (dropL L st).rf } r = rootCell st r ∧ badRoot L refs r = false := by
    intro r hr
    have key : rootCell { (dropL L st) with rf := delL refs (dropL L st).rf } r = rootCell (dropL L st) r ∧ (∀ k c, r = .ref k c → (idxOf k refs 0).isSome = false) := by
      cases r with
      | ref k c =>
        simp only [rootCell, lookR_delL] at hr ⊢
        by_cases hi : (idxOf k refs 0).isSome = true
        · simp [hi] at hr
        · simp only [hi, Bool.false_eq_true, if_false]
          exact ⟨trivial, fun k' c' e => by injection e with e1 e2; subst e1; simpa using hi⟩
      | slot _ _ => exact ⟨rfl, by simp⟩
      | gho _ _ => exact ⟨rfl, by simp⟩
      | res _ => exact ⟨rfl, by simp⟩
    rw [key.1] at hr ⊢
    obtain ⟨h1, h2⟩ := rootCell_dropL hr
    refine ⟨h1, ?_⟩
    simp only [badRoot, h2, Bool.false_or]
    cases r with
    | ref k c => exact key.2 k c rfl
    | _ => rfl
  have hR1 := hR0.move (m' := { m with w := w' }) (ω' := backLab ω ω' m.w d L refs) (hitL L refs) (fun s => .inl rfl) rfl
    (fun r v c hc hne hf hcr => by
      obtain ⟨e1, e2⟩ := hroot0 r (by rw [hc]; exact hne)
      rw [hc] at e1
      have hpl : ∀ p ∈ c.places, badRoot L refs p.r = false := fun p hp => by
        simp only [hitL, List.any_eq_false] at hf
        simpa using hf p hp
      exact hcr.keep (hkeep _ rfl) (fun _ q => hkeep _ (bad_fwd e2 q)) (fun _ _ => rfl)
        (fun p hp => ⟨fun v0 hv0 => hplace p (hpl p hp) v0 hv0 (h.al r p (by rw [← e1]; exact hp)), fun q _ => hkeep _ (bad_fwd (hpl p hp) q)⟩))
    (fun k hk => by
      refine ⟨rfl, fun arr elem hb hh => ?_⟩
      have hnone : idxOf k refs 0 = none := by
        cases hi : idxOf k refs 0 with
        | none => rfl
        | some j => simp [lookR_delL, hi] at hk
      exact hkeep (.blk k) (by simp [fwd, hnone]) _ _ hh hb)
  -- a cell that the callee left
  have hcell : ∀ (r0 r : Root) (v : Value) (c : Cell), (∀ q, bwd d L refs (.at r0 q) = .at r q) → CR ω' (calleeM m refs vals w') r0 v c → CR (backLab ω ω' m.w d L refs) { m with w := w' } r v (backCell c) := by
    intro r0 r v c hq hc
    cases c with
    | own sz rows =>
      refine rd_carry _ _ _ _ (fun q ad k arr elem fz hh hqq => ⟨hh, ?_⟩) hc
      obtain ⟨a1, a2, a3⟩ := hqq
      simp only [List.nil_append] at a1
      exact ⟨by rw [hback _ _ hh _ a1 (by simp), hq]; rfl, a2, a3⟩
    | int k n => exact hc
    | bool b => exact hc
    | str s => exact hc
    | _ => trivial
  -- a slice that was there before, and that a cell is bound to
  have hpin : ∀ (k : Nat) (cs : List Cell), lookR ((dropL L st).filt (hitL L refs)).rf k = some cs → ∀ (i : Nat) (u : Value) (sz : Nat) (rows : List (List D)), cs[i]? = some (.rov u sz rows) →
      rd w' (.lst sz rows) (Qro (backLab ω ω' m.w d L refs)) u := by
    intro k cs hk i u sz rows hi
    have hrc : rootCell ((dropL L st).filt (hitL L refs)) (.ref k i) = .rov u sz rows := by simp only [rootCell, hk, hi]; rfl
    rw [rootCell_filt] at hrc
    have hr1 : rootCell (dropL L st) (.ref k i) = .rov u sz rows := by
      unfold Cell.filt at hrc
      split at hrc
      · simp at hrc
      · exact hrc
    have hne : rootCell (dropL L st) (.ref k i) ≠ .undef := by rw [hr1]; simp
    have hr2 : rootCell st (.ref k i) = .rov u sz rows := by rw [← (rootCell_dropL hne).1]; exact hr1
    simp only [rootCell] at hr2
    cases hl : lookR st.rf k with
    | none => rw [hl] at hr2; simp at hr2
    | some cs1 =>
      simp only [hl] at hr2
      obtain ⟨arr, elem, _, _, h3⟩ := h.r.rf k cs1 hl
      rw [CRs_iff] at h3
      cases hc1 : cs1[i]? with
      | none => rw [hc1] at hr2; simp at hr2
      | some c1 =>
        rw [hc1] at hr2
        simp only [Option.getD_some] at hr2
        subst hr2
        have hlt : i < arr.toList.length := by rw [h3.1]; exact (List.getElem?_eq_some_iff.1 hc1).1
        have := h3.2 i _ _ (List.getElem?_eq_getElem hlt) hc1
        exact rd_carry _ _ _ _ (Carries.ro (hkeep .frame rfl)) this.2
  -- the structs
  have hR2 : R (backLab ω ω' m.w d L refs) { m with w := w' } { ((dropL L st).filt (hitL L refs)) with rf := backR refs rf' ((dropL L st).filt (hitL L refs)).rf } := by
    refine ⟨fun s => hR1.sl s, fun i => hR1.gh i, fun k cs hk => ?_⟩
    simp only [lookR_backR] at hk
    cases hi : idxOf k refs 0 with
    | none =>
      refine hR1.rf k cs ?_
      simp only [St.filt, lookR_mapR, lookR_delL, hi, Option.isSome_none, Bool.false_eq_true, if_false] at hk ⊢
      cases hl : lookR (dropL L st).rf k with
      | none => simp [hl] at hk
      | some cs0 => simpa [hl] using hk
    | some j =>
      obtain ⟨_, hj⟩ := idxOf_get hi
      simp only [Nat.sub_zero] at hj
      have hjl : j < refs.length := (List.getElem?_eq_some_iff.1 hj).1
      obtain ⟨cs', hcs'⟩ := Option.isSome_iff_exists.1 (hrf' j hjl)
      obtain ⟨arr, elem, h1, h2, h3⟩ := hR.r.rf (KEY + j) cs' hcs'
      rw [rb_callee hi] at h1 h2
      simp only [hi, hcs'] at hk
      split at hk
      · rename_i cs0 hk0
        simp only [Option.some.injEq] at hk; subst hk
        refine ⟨arr, elem, h1, ?_, ?_⟩
        · rw [hback _ _ h1 _ h2 (by simp)]
          simp [bwd, hj]
        · rw [CRs_iff] at h3 ⊢
          refine ⟨by simpa [backCs_length] using h3.1, fun i u c hu hc => ?_⟩
          simp only [backCs_get, Option.map_eq_some_iff] at hc
          obtain ⟨c0, hc0, rfl⟩ := hc
          have := h3.2 i u c0 hu hc0
          simp only [Nat.zero_add] at this ⊢
          have hold := hcell (.ref (KEY + j) i) (.ref k i) u c0 (fun q => by simp [bwd, hj]) this
          rcases backC_cases ((cs0[i]?).getD .undef) c0 with e | ⟨u0, sz, rows, sz', rows', e1, e2, e⟩ | e
          · rw [e]; exact hold
          · rw [e]
            subst e2
            obtain ⟨rfl, _⟩ := this
            have hci : cs0[i]? = some (.rov u sz rows) := by
              cases hg : cs0[i]? with
              | none => rw [hg] at e1; simp at e1
              | some c1 => rw [hg] at e1; simp only [Option.getD_some] at e1; rw [e1]
            exact ⟨rfl, hpin k cs0 hk0 i u sz rows hci⟩
          · rw [e]; trivial
      · simp at hk
  -- what was handed over
  have hR3 := R_backL (args' := args') (L := L) hR2 (fun r i c hm u hu => by
    have hu0 : hdR m r = some u := by
      cases r with
      | slot _ _ => exact hu
      | gho _ _ => exact hu
      | res _ => exact hu
      | ref k c' =>
        have ho := hLown _ _ _ hm
        obtain ⟨cs0, hcs0⟩ : ∃ cs', lookR st.rf k = some cs' := by
          simp only [rootCell] at ho
          cases hl : lookR st.rf k with
          | none => simp [hl, Cell.isOwn] at ho
          | some cs' => exact ⟨cs', rfl⟩
        obtain ⟨arr, elem, e1, e2, _⟩ := h.r.rf k cs0 hcs0
        have e3 : idxOf k refs 0 = none := by
          cases hi : idxOf k refs 0 with
          | none => rfl
          | some j =>
            have h4 := lentsOk_refs hok (c := c') (by rw [hi]; rfl)
            have h5 := lentOf_nodup (by simp only [lentsOk, Bool.and_eq_true] at hok; exact hok.1.1) hm
            rw [h4] at h5; simp at h5
        have h3 := (hkeep (.blk k) (by simp [fwd, e3]) _ _ e1 e2).1
        simp only [hdR] at hu ⊢
        rw [h3] at hu
        rw [e1]; exact hu
    rw [hval r i c hm] at hu0
    by_cases hne : ((args'[i]?).getD .undef).get c = .undef
    · rw [hne]; trivial
    · have hg := hR.r.gh i
      simp only [look_argSlots, Nat.zero_le, if_true, Nat.sub_zero] at hg
      obtain ⟨u', hu', hcr⟩ := SVR_get hg hne
      have : u' = u := by
        have e : (calleeM m refs vals w').G.getD i undef = vals.getD i undef := rfl
        rw [e, hu0] at hu'; injection hu' with hu'; exact hu'.symm
      subst this
      exact hcell (.gho i c) r u' _ (fun q => by simp [bwd, lentAt_nodup hcn hm]) hcr)
  have hbackc : ∀ (c : Cell), c ∈ res.cs → backCell c = c ∧ c.places = [] := fun c hc => by
    have := List.all_eq_true.1 hfresh c hc
    cases c <;> first | exact ⟨rfl, rfl⟩ | simp at this
  have hresV : SVR (backLab ω ω' m.w d L refs) { m with w := w' } (.slot d) v res := by
    by_cases hs : res.sh = .no
    · exact SVR_no hs
    · rw [SVR_iff hs] at hres ⊢
      refine ⟨hres.1, ?_⟩
      have := hres.2
      rw [CRs_iff] at this ⊢
      refine ⟨this.1, fun i u c hu hc => ?_⟩
      have h1 := hcell (.res (0 + i)) (.slot d (0 + i)) u c (fun q => rfl) (this.2 i u c hu hc)
      rw [(hbackc c (List.mem_of_getElem? hc)).1] at h1
      exact h1
  have hresA : ∀ s, res.alOk s := fun s => SV.alOk_of (fun c hc p hp => by rw [(hbackc c hc).2] at hp; simp at hp)
  refine ⟨?_, hresV, hresA, hTr⟩
  unfold afterSt
  split
  · have h0 : ∀ l, fwd [] [] l = .frame := by
      intro l
      cases l with
      | «at» r q => cases r <;> simp [fwd, lentOf, idxOf]
      | blk k => simp [fwd, idxOf]
      | _ => rfl
    have := h.ext (ω' := backLab ω ω' m.w d [] []) (w' := w') (fun b x hx => by
      refine ⟨(hkeep (ω b) (h0 _) b x hx rfl).1, ?_⟩
      unfold backLab
      rw [if_pos ⟨by rw [hx]; rfl, h0 _⟩])
    exact this
  · refine ⟨hR3, ?_⟩
    intro r p hp
    have h1 := backL_places hp
    have h2 : p ∈ (rootCell ((dropL L st).filt (hitL L refs)) r).places := by
      cases r with
      | ref k c =>
        simp only [rootCell, lookR_backR] at h1 ⊢
        cases hl : lookR ((dropL L st).filt (hitL L refs)).rf k with
        | none => simp [hl] at h1; exact absurd h1 (by simp [Cell.places])
        | some cs =>
          simp only [hl] at h1
          cases hi : idxOf k refs 0 with
          | none => simpa [hi] using h1
          | some j =>
            obtain ⟨_, hj⟩ := idxOf_get hi
            simp only [Nat.sub_zero] at hj
            have hjl : j < refs.length := (List.getElem?_eq_some_iff.1 hj).1
            obtain ⟨cs', hcs'⟩ := Option.isSome_iff_exists.1 (hrf' j hjl)
            simp only [hi, hcs', backCs_get] at h1
            cases hg : cs'[c]? with
            | none => simp [hg, Cell.places] at h1
            | some c0 => simp [hg, backC_places] at h1
      | slot _ _ => exact h1
      | gho _ _ => exact h1
      | res _ => exact h1
    rw [rootCell_filt] at h2
    obtain ⟨hf, h3⟩ := Cell.filt_place h2
    have hb : badRoot L refs p.r = false := by
      simp only [hitL, List.any_eq_false] at hf
      simpa using hf p h3
    have hne : rootCell (dropL L st) r ≠ .undef := by intro e; rw [e] at h3; simp [Cell.places] at h3
    rw [(rootCell_dropL hne).1] at h3
    have ho := h.al r p h3
    simp only [badRoot, Bool.or_eq_false_iff] at hb
    rw [backL_root hb.1]
    have h5 : rootCell ((dropL L st).filt (hitL L refs)) p.r = rootCell st p.r := by
      rw [rootCell_filt, dropL_root hb.1]
      unfold Cell.filt
      rw [if_neg]
      intro e
      simp only [hitL] at e
      cases hc : rootCell st p.r <;> simp [hc, Cell.isOwn] at ho
      simp [hc, Cell.places] at e
    rw [← h5] at ho
    cases hr : p.r with
    | ref k c =>
      rw [hr] at ho hb
      have hi : idxOf k refs 0 = none := by
        cases hi : idxOf k refs 0 with
        | none => rfl
        | some j => simp [hi] at hb
      simp only [rootCell, lookR_backR, hi] at ho ⊢
      cases hl : lookR ((dropL L st).filt (hitL L refs)).rf k <;> simpa [hl] using ho
    | slot _ _ => rw [hr] at ho; exact ho
    | gho _ _ => rw [hr] at ho; exact ho
    | res _ => rw [hr] at ho; exact ho
end
abbrev Env := FuncId → List SV → Refs → Option (SV × List SV × Refs)
def Callable (P : Program) (f : FuncId) : Prop := ∃ fn, P.funcs[f]? = some fn ∧ fn.body.isNone = false ∧ (fn.name == "runtime.NumGoroutine") = false
def EnvOk (P : Program) (E : Env) : Prop := ∀ f args rf res args' rf', E f args rf = some (res, args', rf') → Callable P f ∧ Good P f args rf res args' rf'
def SV.known (x : SV) : Bool := match x.sh with
  | .no => false
  | _ => true
def putDst (st : St) (d : Option Nat) (x : SV) : St := match d with
  | some d => putSlot st d x
  | none => st
def refsThere (rf : Refs) : Nat → Nat → Bool
  | _, 0 => true
  | j, n + 1 => (lookR rf (KEY + j)).isSome && refsThere rf (j + 1) n
theorem refsThere_spec {rf : Refs} : ∀ {n j : Nat}, refsThere rf j n = true → ∀ i, i < n → (lookR rf (KEY + (j + i))).isSome = true
  | 0, _, _, i, hi => by omega
  | n + 1, j, h, i, hi => by
    simp only [refsThere, Bool.and_eq_true] at h
    cases i with
    | zero => exact h.1
    | succ i => have := refsThere_spec h.2 i (by omega); rwa [show j + (i + 1) = j + 1 + i by omega]
noncomputable def callSt (E : Env) (st : St) (d : Option Nat) (f : FuncId) (args : List (Bool × SV)) (refs : List Nat) : Option St :=
  if (lentsOk (allLents st 0 args) refs && cellsNodup (allLents st 0 args)) && args.all (fun x => x.2.known) then
    match callRefs st 0 refs with
    | some rf => match E f (callArgs st (allLents st 0 args) refs args) rf with
      | some (res, args', rf') => if res.fresh && refsThere rf' 0 refs.length then some (putDst (afterSt st (allLents st 0 args) refs args' rf') d res) else none
      | none => none
    | none => none
  else none
section
variable {P : Program} {E : Env} {ω : Nat → Lab} {m : Mc} {st : St} {o : Oper} {a : Act}
theorem lentsOf_mem {i : Nat} {own : Bool} : ∀ {cs : List Cell} {j : Nat} {y : Root × Nat × Nat}, y ∈ lentsOf st i own j cs → ∃ c, y.2.1 = i ∧ y.2.2 = j + c ∧ cs[c]? = some (.al ⟨y.1, []⟩)
  | [], _, _, h => by simp [lentsOf] at h
  | c :: cs, j, y, h => by
    simp only [lentsOf, List.mem_append] at h
    rcases h with h | h
    · split at h
      · simp only [List.mem_singleton] at h; subst h
        exact ⟨0, rfl, rfl, rfl⟩
      · simp at h
    · obtain ⟨k, h1, h2, h3⟩ := lentsOf_mem h
      exact ⟨k + 1, h1, by omega, by simpa using h3⟩
theorem allLents_get : ∀ {xs : List (Bool × SV)} {j : Nat} {y : Root × Nat × Nat}, y ∈ allLents st j xs → ∃ i own x, xs[i]? = some (own, x) ∧ y.2.1 = j + i ∧ x.cs[y.2.2]? = some (.al ⟨y.1, []⟩)
  | [], _, _, h => by simp [allLents] at h
  | (own, x) :: xs, j, y, h => by
    simp only [allLents, List.mem_append] at h
    rcases h with h | h
    · obtain ⟨c, h1, h2, h3⟩ := lentsOf_mem h
      exact ⟨0, own, x, rfl, h1, by rw [h2]; simpa using h3⟩
    · obtain ⟨i, own', x', h1, h2, h3⟩ := allLents_get h
      exact ⟨i + 1, own', x', by simpa using h1, by omega, h3⟩
def COk (P : Program) (ω : Nat → Lab) (m : Mc) (f : FuncId) (vals : Array Value) (d : Option Nat) (st' : St) : Prop :=
  Calls P f vals m.w fun e w' => ∃ v ω', e = .returned v ∧ RR ω' { m with w := w', T := (match d with | some d => m.T.setIfInBounds d v | none => m.T) } st' ∧
    Tr ω m ω' { m with w := w', T := (match d with | some d => m.T.setIfInBounds d v | none => m.T) }
theorem call_sound {d : Option Nat} {f : FuncId} {args : List (Bool × SV)} {refs : List Nat} {vals : Array Value} {st' : St} (hE : EnvOk P E) (h : RR ω m st) (hd : ∀ t, d = some t → t < m.T.size)
    (hsz : vals.size = args.length) (hv : ∀ i own x, args[i]? = some (own, x) → (∀ r, SVR ω m r (vals.getD i undef) x) ∧ x.alOk st)
    (hs : callSt E st d f args refs = some st') : Callable P f ∧ COk P ω m f vals d st' := by
  unfold callSt at hs
  split at hs
  · rename_i hcc
    simp only [Bool.and_eq_true] at hcc
    have hc := hcc.1
    have hv : ∀ i own x, args[i]? = some (own, x) → (∀ r, SVR ω m r (vals.getD i undef) x) ∧ x.alOk st ∧ x.sh ≠ .no := fun i own x hx =>
      ⟨(hv i own x hx).1, (hv i own x hx).2, fun e => by
        have := List.all_eq_true.1 hcc.2 _ (List.mem_of_getElem? hx)
        simp [SV.known, e] at this⟩
    split at hs
    · rename_i rf hrf
      split at hs
      · rename_i res args' rf' hEE
        split at hs
        · rename_i hfr
          simp only [Bool.and_eq_true] at hfr
          simp only [Option.some.injEq] at hs
          have hG := hE _ _ _ _ _ _ hEE
          obtain ⟨h1, h2⟩ := start_sound h hsz (fun i own x hx => (hv i own x hx).1) rfl hc.1 hrf
          refine ⟨hG.1, Calls.mono (hG.2 m.w _ _ vals h1 h2) ?_⟩
          rintro e w' ⟨v, ω', rfl, h3, h4, h5⟩
          have hal : ∀ y ∈ allLents st 0 args, ∃ i own x, args[i]? = some (own, x) ∧ y.2.1 = i ∧ x.get y.2.2 = .al ⟨y.1, []⟩ := fun y hy => by
            obtain ⟨i, own, x, h6, h7, h8⟩ := allLents_get hy
            refine ⟨i, own, x, h6, by omega, ?_⟩
            have hne := (hv i own x h6).2.2
            unfold SV.get
            split
            · contradiction
            · rw [h8]; rfl
          obtain ⟨h6, h7, h8, h9⟩ := after_sound (d := d.getD m.T.size) (args' := args') (rf' := rf') (vals := vals) (v := v) h hc.1 hc.2 hfr.1
            (fun r i c hm => by
              obtain ⟨i', own, x, e1, e2, e3⟩ := hal _ hm
              simp only at e2 e3; subst e2
              obtain ⟨u, hu, hcr⟩ := SVR_get ((hv _ own x e1).1 .res) (c := c) (by rw [e3]; simp)
              rw [e3] at hcr
              obtain ⟨⟨v0, hh, hp⟩, _⟩ := hcr
              simp only [onPath] at hp
              rw [hh, hp]; exact hu.symm)
            (fun r i c hm => by
              obtain ⟨i', own, x, e1, e2, e3⟩ := hal _ hm
              simp only at e2 e3; subst e2
              exact (hv _ own x e1).2.1 c ⟨r, []⟩ (by rw [e3]; simp [Cell.places]))
            hrf (fun j hj => by simpa using refsThere_spec hfr.2 j hj) h3 (h4 _ rfl) h5
          subst hs
          cases d with
          | none => exact ⟨v, _, rfl, h6, h9⟩
          | some d => exact ⟨v, _, rfl, h6.put (hd d rfl) h7 (h8 _), h9.trans (Tr.put (m := { m with w := w' }) d v)⟩
        · simp at hs
      · simp at hs
    · simp at hs
  · simp at hs
end
def cellSV (c : Cell) : SV := match c with
  | .undef => .undef
  | .st cs => ⟨.agg, cs⟩
  | c => ⟨.one, [c]⟩
def evArgs (st : St) (args : List (Bool × XO)) : List (Bool × SV) := args.map fun x => (x.1, evX st x.2)
def evCaps (cs : List Cell) : List (Bool × SV) := cs.map fun c => (false, cellSV c)
def putQ (st : St) (d : Nat) : Option SV → Option St
  | some x => some (putSlot st d x)
  | none => none
def putA (st : St) (d : Nat) : Option (List Cell) → Option St
  | some cs => some (putSlot st d ⟨.agg, cs⟩)
  | none => none
noncomputable def step (E : Env) (st : St) (dst : Option Nat) (op : XOp) : Option St :=
  match op with
  | .call f args refs => callSt E st dst f (evArgs st args) refs
  | .callv x args refs => match (evX st x).c1 with
    | .fn (.func f) fi ca => callSt E st dst f (evCaps fi ++ evArgs st args ++ evCaps ca) refs
    | _ => none
  | op => match dst with
    | none => match op with
      | .store n y x tk => storeSt st n y x tk
      | _ => none
    | some d => match op with
      | .asg x tk => asgSt st d x tk
      | .alloc cs => some (allocSt st d cs)
      | .box x tk => boxSt st d x tk
      | .build zero parts => putA st d (buildCells st zero parts)
      | .bslice sz parts => bsliceSt st d sz parts
      | .mks sz bytes zero l => mksSt st d sz bytes zero l
      | .slcO sz x lo hi => slcOSt st d sz x lo hi
      | .app sz bytes x y nested => appSt st d sz bytes x y nested
      | op => putQ st d (qop st op)
def zeroIs (P : Program) (t : TypeId) (chk : TypeInfo → Value → Bool) : Bool := match P.info? t with
  | some i => match i.zero with
    | some z => chk i z
    | none => false
  | none => false
def elemIs (P : Program) (t : TypeId) (chk : TypeInfo → Value → Bool) : Bool := match P.underlying t with
  | some (.slice e) => zeroIs P e chk
  | _ => false
theorem zeroIs_spec {P : Program} {t : TypeId} {chk : TypeInfo → Value → Bool} (h : zeroIs P t chk = true) : ∃ i z, P.info? t = some i ∧ i.zero = some z ∧ chk i z = true := by
  unfold zeroIs at h
  split at h
  · rename_i i hi
    split at h
    · rename_i z hz; exact ⟨i, z, hi, hz, h⟩
    · simp at h
  · simp at h
theorem elemIs_spec {P : Program} {t : TypeId} {chk : TypeInfo → Value → Bool} (h : elemIs P t chk = true) : ∃ e i z, P.underlying t = some (.slice e) ∧ P.info? e = some i ∧ i.zero = some z ∧ chk i z = true := by
  unfold elemIs at h
  split at h
  · rename_i e he; obtain ⟨i, z, h1, h2, h3⟩ := zeroIs_spec h; exact ⟨e, i, z, he, h1, h2, h3⟩
  · simp at h
def callableB (P : Program) (f : FuncId) : Bool := match P.funcs[f]? with
  | some fn => !fn.body.isNone && !(fn.name == "runtime.NumGoroutine")
  | none => false
def nilOp : Operand → Bool
  | .const (.slice none _ _) => true
  | _ => false
def tyIsSlice (P : Program) (t : TypeId) : Bool := match P.underlying t with
  | some (.slice _) => true
  | _ => false
def mE (P : Program) (o : Oper) : XOp → Bool
  | .isnil x => match o.op with
    | .binOp op t z w _ => decide (op = .eql) && mO z x && nilOp w && tyIsSlice P t
    | _ => false
  | .cnew f x => match o.op with
    | .call { callee := .value (.func f'), args := zs, argTypes := _ } => f' == f && mOs zs.toList [x]
    | _ => false
  | .asg x tk => match o.op with
    | .assign z => mO z x
    | _ => false
  | .alloc cs => match o.op with
    | .alloc e => zeroIs P e fun _ z => constCs z.cells.toList cs
    | _ => false
  | .box x tk => match o.op with
    | .box _ z => mO z x
    | _ => false
  | .build zero parts => match o.op with
    | .build t ps => (match P.underlying t with
      | some (.struct fs) => fieldsKnown P fs && mFields P fs ps.toList parts
      | _ => false) && zeroIs P t fun _ z => constCs z.cells.toList zero
    | _ => false
  | .bslice sz parts => match o.op with
    | .buildSlice t len ps => mParts ps.toList parts 0 && (len == parts.length) && decide (len * sz ≤ 16777216) && elemIs P t fun i z => i.size == sz && z.cells.size == sz
    | _ => false
  | .mks sz bytes zero l => match o.op with
    | .makeSlice t zl zc => mO zl l && mO zc l && elemIs P t fun i z => i.size == sz && i.bytes == bytes && constDs z.cells.toList zero
    | _ => false
  | .slcO sz x lo hi => match o.op with
    | .slice t zx l h none => mO zx x && mOo l lo && mOo h hi && elemIs P t fun i z => i.size == sz
    | _ => false
  | .app sz bytes x y nested => match o.op with
    | .call { callee := .builtin .append, args, argTypes } => (match args.toList, argTypes.toList with
      | [zx, zy], [t, t'] => mO zx x && mO zy y && (t == t') && elemIs P t fun i z => i.size == sz && i.bytes == bytes && z.cells.size == sz
      | _, _ => false)
    | _ => false
  | .call f args refs => match o.op with
    | .call { callee := .value (.func f'), args := zs, argTypes := _ } => f' == f && mOs zs.toList (args.map (·.2))
    | _ => false
  | .callv x args refs => match o.op with
    | .call { callee := .value z, args := zs, argTypes := _ } => mO z x && mOs zs.toList (args.map (·.2))
    | _ => false
  | .store n y x tk => match o.op with
    | .store t zy zx => mO zy y && mO zx x && (match P.info? t with
      | some i => i.size == n
      | none => false)
    | _ => false
  | op => mQ P o op
section
variable {P : Program} {E : Env} {ω : Nat → Lab} {m : Mc} {st : St} {o : Oper} {a : Act}
theorem mOs_get : ∀ {zs : List Operand} {xs : List XO}, mOs zs xs = true → zs.length = xs.length ∧ ∀ (i : Nat) x, xs[i]? = some x → ∃ z, zs[i]? = some z ∧ mO z x = true
  | [], [], _ => by simp
  | [], _ :: _, h => by simp [mOs] at h
  | _ :: _, [], h => by simp [mOs] at h
  | z :: zs, x :: xs, h => by
    simp only [mOs, Bool.and_eq_true] at h
    obtain ⟨h1, h2⟩ := mOs_get h.2
    refine ⟨by simp [h1], fun i y hy => ?_⟩
    cases i with
    | zero => simp at hy; subst hy; exact ⟨z, rfl, h.1⟩
    | succ i => simp at hy; simpa using h2 i y hy
def Told (ω : Nat → Lab) (m : Mc) (st : St) (vals : List Value) (xs : List (Bool × SV)) : Prop :=
  vals.length = xs.length ∧ ∀ (i : Nat) v own x, vals[i]? = some v → xs[i]? = some (own, x) → (∀ r, SVR ω m r v x) ∧ x.alOk st
theorem Told.append {v1 v2 : List Value} {x1 x2 : List (Bool × SV)} (h1 : Told ω m st v1 x1) (h2 : Told ω m st v2 x2) : Told ω m st (v1 ++ v2) (x1 ++ x2) := by
  refine ⟨by simp [h1.1, h2.1], fun i v own x hv hx => ?_⟩
  by_cases hi : i < v1.length
  · rw [List.getElem?_append_left hi] at hv
    rw [List.getElem?_append_left (by rw [← h1.1]; exact hi)] at hx
    exact h1.2 i v own x hv hx
  · rw [List.getElem?_append_right (by omega)] at hv
    rw [List.getElem?_append_right (by rw [← h1.1]; omega), ← h1.1] at hx
    exact h2.2 _ v own x hv hx
theorem told_args {zs : List Operand} {args : List (Bool × XO)} (h : RR ω m st) (ha : a.tmps = m.T) (hm : mOs zs (args.map (·.2)) = true) : Told ω m st (zs.map a.eval) (evArgs st args) := by
  obtain ⟨h1, h2⟩ := mOs_get hm
  simp only [List.length_map] at h1
  refine ⟨by simp [evArgs, h1], fun i v own x hv hx => ?_⟩
  simp only [evArgs, List.getElem?_map, Option.map_eq_some_iff] at hv hx
  obtain ⟨y, hy, hyx⟩ := hx
  obtain ⟨z, hz, rfl⟩ := hv
  obtain ⟨z', hz', hm'⟩ := h2 i y.2 (by simp [hy])
  rw [hz] at hz'; injection hz' with hz'; subst hz'
  injection hyx with _ e; subst e
  exact ⟨fun r => evX_sound h ha hm' r, evX_alOk h hm'⟩
theorem CRl_get : ∀ {cs : List Cell} {r : Root} {vs : List Value}, CRl ω m cs r vs → vs.length = cs.length ∧ ∀ (i : Nat) v c, vs[i]? = some v → cs[i]? = some c → c.isOwn = false ∧ CRx ω m c r v
  | [], _, vs, h => by simp only [CRl] at h; subst h; simp
  | c :: cs, r, vs, h => by
    obtain ⟨v, rest, rfl, h2, h3, h4⟩ := h
    obtain ⟨h5, h6⟩ := CRl_get h4
    refine ⟨by simp [h5], fun i u d hu hd => ?_⟩
    cases i with
    | zero => simp at hu hd; subst hu; subst hd; exact ⟨h2, h3⟩
    | succ i => simp at hu hd; exact h6 i u d hu hd
theorem placesL_mem : ∀ {cs : List Cell} {c : Cell} {p : Pl}, c ∈ cs → p ∈ c.places → p ∈ placesL cs
  | d :: cs, c, p, h, hp => by
    simp only [placesL, List.mem_append]
    rcases List.mem_cons.1 h with rfl | h
    · exact .inl hp
    · exact .inr (placesL_mem h hp)
theorem cellSV_sound {c : Cell} {r0 : Root} {v : Value} (ho : c.isOwn = false) (h : CRx ω m c r0 v) (r : Nat → Root) : SVR ω m r v (cellSV c) := by
  unfold cellSV
  split
  · exact SVR_no rfl
  · rename_i cs
    obtain ⟨arr, rfl, h2⟩ := h
    obtain ⟨h3, h4⟩ := CRl_get h2
    refine ⟨⟨arr, rfl⟩, ?_⟩
    rw [CRs_iff]
    exact ⟨h3, fun i u d hu hd => CRx_root d _ _ u (h4 i u d hu hd).1 (h4 i u d hu hd).2⟩
  · rename_i h1 h2
    exact one_sound (by cases c <;> first | rfl | (exact absurd rfl h1) | (exact absurd rfl (h2 _))) (CRx_root c _ _ v ho h)
theorem told_caps {cs : List Cell} {r : Root} {vs : List Value} (h : CRl ω m cs r vs) (hp : ∀ p ∈ placesL cs, (rootCell st p.r).isOwn = true) : Told ω m st vs (evCaps cs) := by
  obtain ⟨h1, h2⟩ := CRl_get h
  refine ⟨by simp [evCaps, h1], fun i v own x hv hx => ?_⟩
  simp only [evCaps, List.getElem?_map, Option.map_eq_some_iff] at hx
  obtain ⟨c, hc, e⟩ := hx
  injection e with _ e; subst e
  obtain ⟨h3, h4⟩ := h2 i v c hv hc
  refine ⟨fun r' => cellSV_sound h3 h4 r', SV.alOk_of fun d hd p hpp => hp p (placesL_mem (List.mem_of_getElem? hc) ?_)⟩
  unfold cellSV at hd
  split at hd
  · simp at hd
  · simp only [Cell.places]; exact placesL_mem hd hpp
  · simp only [List.mem_singleton] at hd; subst hd; exact hpp
def XOk (P : Program) (ω : Nat → Lab) (m : Mc) (o : Oper) (a : Act) (st' : St) : Prop :=
  ∀ (next : Act → World → Prop) (Q : Exit → Act → World → Prop), (∀ a' w' ω' rb', a'.defers = a.defers → RR ω' ⟨a'.tmps, m.G, w', rb'⟩ st' → Tr ω m ω' ⟨a'.tmps, m.G, w', rb'⟩ → next a' w') → o.wp P a m.w next Q
theorem XOk.of_e {d : Nat} {st' : St} (ha : a.tmps = m.T) (hd : o.dst = some d) (h : EOk P ω m o a d st') : XOk P ω m o a st' := by
  obtain ⟨v, w', ω', rb', h1, h2, h3⟩ := h
  intro next Q hn
  unfold Oper.wp
  rw [h1, Oper.upon_value, hd]
  exact hn _ _ _ _ rfl (by simpa [Act.put, ha] using h2) (by simpa [Act.put, ha] using h3)
theorem XOk.of_s {st' : St} (ha : a.tmps = m.T) (hd : o.dst = none) (h : SOk P ω m o a st') : XOk P ω m o a st' := by
  obtain ⟨w', ω', h1, h2, h3⟩ := h
  intro next Q hn
  unfold Oper.wp
  rw [h1, Oper.upon_skip, hd]
  exact hn _ _ _ _ rfl (by simpa [Act.put, ha] using h2) (by simpa [Act.put, ha] using h3)
theorem run_callFunc {f : FuncId} {args : Array Value} {w : World} (h : Callable P f) : (callFunc f args).run P w = .ok (.enter f args) w := by
  obtain ⟨fn, h1, h2, h3⟩ := h
  simp only [callFunc, Sem.run_bind, run_program, Result.andThen_ok, h1, h2, h3, Bool.false_eq_true, if_false, Sem.run_pure]
theorem XOk.of_c {st' : St} {f : FuncId} {vals : Array Value} (ha : a.tmps = m.T) (h : COk P ω m f vals o.dst st') (hr : (execOp a.eval o).run P m.w = .ok (.enter f vals) m.w) : XOk P ω m o a st' := by
  intro next Q hn
  unfold Oper.wp
  rw [hr, Oper.upon_enter]
  refine Calls.mono h ?_
  rintro e w' ⟨v, ω', rfl, h2, h3⟩
  cases hd : o.dst with
  | none =>
    rw [hd] at h2 h3
    exact hn _ _ _ _ rfl (by simpa [Act.put, ha] using h2) (by simpa [Act.put, ha] using h3)
  | some d =>
    rw [hd] at h2 h3
    exact hn _ _ _ _ rfl (by simpa [Act.put, ha] using h2) (by simpa [Act.put, ha] using h3)
theorem XOk.call {st' : St} {f : FuncId} {xs : List (Bool × SV)} {vals : List Value} {refs : List Nat} (hE : EnvOk P E) (h : RR ω m st) (ha : a.tmps = m.T) (hd : ∀ t, o.dst = some t → t < m.T.size) (ht : Told ω m st vals xs)
    (hs : callSt E st o.dst f xs refs = some st') (hr : (execOp a.eval o).run P m.w = (callFunc f vals.toArray).run P m.w) : XOk P ω m o a st' := by
  obtain ⟨h1, h2⟩ := call_sound (vals := vals.toArray) hE h hd (by simpa using ht.1) (fun i own x hx => by
    have hi : i < vals.length := by rw [ht.1]; exact (List.getElem?_eq_some_iff.1 hx).1
    have := ht.2 i vals[i] own x (List.getElem?_eq_getElem hi) hx
    have e : vals.toArray.getD i undef = vals[i] := by simp [Array.getD, hi]
    rw [e]; exact this) hs
  exact XOk.of_c ha h2 (by rw [hr]; exact run_callFunc h1)
theorem step_sound {op : XOp} {st' : St} (hE : EnvOk P E) (h : RR ω m st) (ha : a.tmps = m.T) (hm : mE P o op = true) (hd : ∀ t, o.dst = some t → t < m.T.size ∧ t < KEY)
    (hs : step E st o.dst op = some st') : XOk P ω m o a st' := by
  have hd1 : ∀ t, o.dst = some t → t < m.T.size := fun t ht => (hd t ht).1
  have quiet : ∀ (d : Nat), o.dst = some d → mQ P o op = true → putQ st d (qop st op) = some st' → XOk P ω m o a st' := by
    intro d hdd hmq hq
    cases hqq : qop st op with
    | none => simp [hqq, putQ] at hq
    | some y =>
      simp only [hqq, putQ, Option.some.injEq] at hq; subst hq
      exact XOk.of_e ha hdd (EOk.of_q h (hd1 d hdd) (q_sound h ha hmq hqq))
  cases op with
  | call f args refs =>
    simp only [step] at hs
    simp only [mE] at hm
    split at hm
    · rename_i f' zs tys ho
      simp only [Bool.and_eq_true, beq_iff_eq] at hm
      obtain ⟨rfl, hm⟩ := hm
      refine XOk.call hE h ha hd1 (told_args h ha hm) hs ?_
      simp only [execOp, ho, resolve, Act.eval, Deferred.ofValue, pure_bind, invoke]
      congr 2
      apply Array.ext'
      simp
    · simp at hm
  | callv x args refs =>
    simp only [step] at hs
    simp only [mE] at hm
    split at hm
    · rename_i z zs tys ho
      simp only [Bool.and_eq_true] at hm
      obtain ⟨hmx, hm⟩ := hm
      split at hs
      · rename_i f fi ca hc
        have hcc := c1_of h ha hmx hc (by simp) (fun _ => .res 0)
        obtain ⟨⟨fv, cv, hv, h1, h2⟩, hp⟩ := hcc
        simp only [Cell.places, List.mem_append] at hp
        have ht := ((told_caps (st := st) h1 fun p hpp => hp p (.inl hpp)).append (told_args h ha hm)).append (told_caps (st := st) h2 fun p hpp => hp p (.inr hpp))
        refine XOk.call hE h ha hd1 ht hs ?_
        simp only [execOp, ho, resolve, hv, Deferred.ofValue, pure_bind, invoke]
        congr 2
        apply Array.ext'
        simp
      · simp at hs
    · simp at hm
  | store n y x tk =>
    cases hdd : o.dst with
    | some d => simp [step, hdd, qop, putQ] at hs
    | none =>
      simp only [step, hdd] at hs
      simp only [mE] at hm
      split at hm
      · rename_i t zy zx ho
        simp only [Bool.and_eq_true] at hm
        obtain ⟨⟨h1, h2⟩, h3⟩ := hm
        split at h3
        · rename_i i hi
          simp only [beq_iff_eq] at h3
          exact XOk.of_s ha hdd (e_store h ha ho h1 h2 hi h3 hs)
        · simp at h3
      · simp at hm
  | asg x tk =>
    cases hdd : o.dst with
    | none => simp [step, hdd] at hs
    | some d =>
      simp only [step, hdd] at hs
      simp only [mE] at hm
      split at hm
      · rename_i z ho; exact XOk.of_e ha hdd (e_asg h ha (hd1 d hdd) ho hm hs)
      · simp at hm
  | alloc cs =>
    cases hdd : o.dst with
    | none => simp [step, hdd] at hs
    | some d =>
      simp only [step, hdd, Option.some.injEq] at hs; subst hs
      simp only [mE] at hm
      split at hm
      · rename_i e ho
        obtain ⟨i, z, h1, h2, h3⟩ := zeroIs_spec hm
        exact XOk.of_e ha hdd (e_alloc h (hd1 d hdd) (hd d hdd).2 ho h1 h2 h3)
      · simp at hm
  | box x tk =>
    cases hdd : o.dst with
    | none => simp [step, hdd] at hs
    | some d =>
      simp only [step, hdd] at hs
      simp only [mE] at hm
      split at hm
      · rename_i e z ho; exact XOk.of_e ha hdd (e_box h ha (hd1 d hdd) (hd d hdd).2 ho hm hs)
      · simp at hm
  | build zero parts =>
    cases hdd : o.dst with
    | none => simp [step, hdd] at hs
    | some d =>
      simp only [step, hdd] at hs
      cases hb : buildCells st zero parts with
      | none => simp [hb, putA] at hs
      | some cs =>
        simp only [hb, putA, Option.some.injEq] at hs; subst hs
        simp only [mE] at hm
        split at hm
        · rename_i t ps ho
          simp only [Bool.and_eq_true] at hm
          obtain ⟨h1, h2⟩ := hm
          split at h1
          · rename_i fs hu
            simp only [Bool.and_eq_true] at h1
            obtain ⟨i, z, h3, h4, h5⟩ := zeroIs_spec h2
            exact XOk.of_e ha hdd (EOk.of_q h (hd1 d hdd) (q_build h ha ho hu h3 h4 h5 h1.1 h1.2 hb))
          · simp at h1
        · simp at hm
  | bslice sz parts =>
    cases hdd : o.dst with
    | none => simp [step, hdd] at hs
    | some d =>
      simp only [step, hdd] at hs
      simp only [mE] at hm
      split at hm
      · rename_i t len ps ho
        simp only [Bool.and_eq_true, beq_iff_eq, decide_eq_true_eq] at hm
        obtain ⟨⟨⟨h1, h2⟩, h3⟩, h4⟩ := hm
        obtain ⟨e, i, z, h5, h6, h7, h8⟩ := elemIs_spec h4
        simp only [Bool.and_eq_true, beq_iff_eq] at h8
        exact XOk.of_e ha hdd (e_bslice h ha (hd1 d hdd) ho h1 h2 h5 h6 h8.1 h7 h8.2 h3 hs)
      · simp at hm
  | mks sz bytes zero l =>
    cases hdd : o.dst with
    | none => simp [step, hdd] at hs
    | some d =>
      simp only [step, hdd] at hs
      simp only [mE] at hm
      split at hm
      · rename_i t zl zc ho
        simp only [Bool.and_eq_true] at hm
        obtain ⟨⟨h1, h2⟩, h4⟩ := hm
        obtain ⟨e, i, z, h5, h6, h7, h8⟩ := elemIs_spec h4
        simp only [Bool.and_eq_true, beq_iff_eq] at h8
        exact XOk.of_e ha hdd (e_mks h ha (hd1 d hdd) ho h1 h2 h5 h6 h8.1.1 h8.1.2 h7 h8.2 hs)
      · simp at hm
  | slcO sz x lo hi =>
    cases hdd : o.dst with
    | none => simp [step, hdd] at hs
    | some d =>
      simp only [step, hdd] at hs
      simp only [mE] at hm
      split at hm
      · rename_i t zx l hh ho
        simp only [Bool.and_eq_true] at hm
        obtain ⟨⟨⟨h1, h2⟩, h3⟩, h4⟩ := hm
        obtain ⟨e, i, z, h5, h6, h7, h8⟩ := elemIs_spec h4
        simp only [beq_iff_eq] at h8
        exact XOk.of_e ha hdd (e_slcO h ha (hd1 d hdd) ho h1 h2 h3 h5 h6 h8 hs)
      · simp at hm
  | app sz bytes x y nested =>
    cases hdd : o.dst with
    | none => simp [step, hdd] at hs
    | some d =>
      simp only [step, hdd] at hs
      simp only [mE] at hm
      split at hm
      · rename_i args tys ho
        split at hm
        · rename_i zx zy t t' h1 h2
          simp only [Bool.and_eq_true, beq_iff_eq] at hm
          obtain ⟨⟨⟨h3, h4⟩, rfl⟩, h9⟩ := hm
          obtain ⟨e, i, z, h5, h6, h7, h8⟩ := elemIs_spec h9
          simp only [Bool.and_eq_true, beq_iff_eq] at h8
          have e1 : args = #[zx, zy] := Array.ext' h1
          have e2 : tys = #[t, t] := Array.ext' h2
          subst e1; subst e2
          exact XOk.of_e ha hdd (e_app h ha (hd1 d hdd) ho h3 h4 h5 h6 h8.1.1 h8.1.2 h7 h8.2 hs)
        · simp at hm
      · simp at hm
  | isnil x =>
    cases hdd : o.dst with
    | none => simp [step, hdd] at hs
    | some d => simp [step, hdd, qop, putQ] at hs
  | cnew f x =>
    cases hdd : o.dst with
    | none => simp [step, hdd] at hs
    | some d => simp [step, hdd, qop, putQ] at hs
  | _ =>
    cases hdd : o.dst with
    | none => simp [step, hdd] at hs
    | some d => simp only [step, hdd] at hs; simp only [mE] at hm; exact quiet d hdd hm hs
end
def Opt {α : Type} (o : Option α) (K : α → Prop) : Prop := ∃ y, o = some y ∧ K y
theorem Opt_some {α : Type} {y : α} {K : α → Prop} : Opt (some y) K = K y := by simp [Opt]
theorem Opt_none {α : Type} {K : α → Prop} : Opt none K = False := by simp [Opt]
theorem Opt_if {α : Type} {c : Prop} [Decidable c] {x y : Option α} {K : α → Prop} (hc : c) (h : Opt x K) : Opt (if c then x else y) K := by rw [if_pos hc]; exact h
theorem Opt_mono {α : Type} {o : Option α} {K1 K2 : α → Prop} (h : ∀ y, K1 y → K2 y) (hh : Opt o K1) : Opt o K2 := by obtain ⟨y, e, hk⟩ := hh; exact ⟨y, e, h y hk⟩
def CallW (P : Program) (f : FuncId) (args : List SV) (rf : Refs) (k : SV → List SV → Refs → Prop) : Prop :=
  ∃ res args' rf', Callable P f ∧ Good P f args rf res args' rf' ∧ k res args' rf'
theorem CallW_mono {P : Program} {f : FuncId} {args : List SV} {rf : Refs} {k1 k2 : SV → List SV → Refs → Prop} (h : ∀ a b c, k1 a b c → k2 a b c) (hh : CallW P f args rf k1) : CallW P f args rf k2 := by
  obtain ⟨a, b, c, h1, h2, h3⟩ := hh
  exact ⟨a, b, c, h1, h2, h _ _ _ h3⟩
def GoodR (P : Program) (f : FuncId) (args : List SV) (rf : Refs) (Q : SV → List SV → Refs → Prop) : Prop :=
  ∀ (w : World) (ω : Nat → Lab) (rb : Nat → Nat) (vals : Array Value), vals.size = args.length → RR ω ⟨#[], vals, w, rb⟩ ⟨[], rf, argSlots 0 args⟩ →
    Calls P f vals w fun e w' => ∃ v ω' res args' rf', e = .returned v ∧ Q res args' rf' ∧ RR ω' ⟨#[], vals, w', rb⟩ ⟨[], rf', argSlots 0 args'⟩ ∧ (∀ r, r = Root.res → SVR ω' ⟨#[], vals, w', rb⟩ r v res) ∧
      Tr ω ⟨#[], vals, w, rb⟩ ω' ⟨#[], vals, w', rb⟩
def CallR (P : Program) (f : FuncId) (args : List SV) (rf : Refs) (k : SV → List SV → Refs → Prop) : Prop := Callable P f ∧ GoodR P f args rf k
theorem CallR_mono {P : Program} {f : FuncId} {args : List SV} {rf : Refs} {k1 k2 : SV → List SV → Refs → Prop} (h : ∀ a b c, k1 a b c → k2 a b c) (hh : CallR P f args rf k1) : CallR P f args rf k2 :=
  ⟨hh.1, fun w ω rb vals h1 h2 => Calls.mono (hh.2 w ω rb vals h1 h2) fun e w' ⟨v, ω', res, a, r, e1, e2, e3⟩ => ⟨v, ω', res, a, r, e1, h _ _ _ e2, e3⟩⟩
theorem Good.toR {P : Program} {f : FuncId} {args : List SV} {rf : Refs} {res : SV} {args' : List SV} {rf' : Refs} {k : SV → List SV → Refs → Prop} (h : Good P f args rf res args' rf') (hk : k res args' rf') : GoodR P f args rf k :=
  fun w ω rb vals h1 h2 => Calls.mono (h w ω rb vals h1 h2) fun e w' ⟨v, ω', e1, e3⟩ => ⟨v, ω', res, args', rf', e1, hk, e3⟩
def noE : Env := fun _ _ _ => none
theorem noE_ok {P : Program} : EnvOk P noE := fun _ _ _ _ _ _ h => by simp [noE] at h
open Classical in
noncomputable def oneE (f : FuncId) (args : List SV) (rf : Refs) (r : SV × List SV × Refs) : Env := fun f' a' r' => if f' = f ∧ a' = args ∧ r' = rf then some r else none
theorem oneE_ok {P : Program} {f : FuncId} {args : List SV} {rf : Refs} {res : SV} {args' : List SV} {rf' : Refs} (h1 : Callable P f) (h2 : Good P f args rf res args' rf') : EnvOk P (oneE f args rf (res, args', rf')) := by
  intro f1 a1 r1 res1 a2 r2 h
  unfold oneE at h
  split at h
  · rename_i hc
    obtain ⟨rfl, rfl, rfl⟩ := hc
    simp only [Option.some.injEq, Prod.mk.injEq] at h
    obtain ⟨rfl, rfl, rfl⟩ := h
    exact ⟨h1, h2⟩
  · simp at h
theorem oneE_eq {f : FuncId} {args : List SV} {rf : Refs} {r : SV × List SV × Refs} : oneE f args rf r f args rf = some r := by simp [oneE]
def callK (st : St) (L : List (Root × Nat × Nat)) (refs : List Nat) (d : Option Nat) (K : St → Prop) (res : SV) (args' : List SV) (rf' : Refs) : Prop :=
  (res.fresh && refsThere rf' 0 refs.length) = true ∧ K (putDst (afterSt st L refs args' rf') d res)
def callRf (P : Program) (st : St) (d : Option Nat) (f : FuncId) (args : List (Bool × SV)) (L : List (Root × Nat × Nat)) (refs : List Nat) (K : St → Prop) : Option Refs → Prop
  | some rf => CallR P f (callArgs st L refs args) rf (callK st L refs d K)
  | none => False
def callLs (P : Program) (st : St) (d : Option Nat) (f : FuncId) (args : List (Bool × SV)) (refs : List Nat) (K : St → Prop) (L : List (Root × Nat × Nat)) : Prop :=
  ((lentsOk L refs && cellsNodup L) && args.all (fun x => x.2.known)) = true ∧ callRf P st d f args L refs K (callRefs st 0 refs)
def callW (P : Program) (st : St) (d : Option Nat) (f : FuncId) (args : List (Bool × SV)) (refs : List Nat) (K : St → Prop) : Prop :=
  callLs P st d f args refs K (allLents st 0 args)
def callvW (P : Program) (st : St) (d : Option Nat) (args : List (Bool × SV)) (refs : List Nat) (K : St → Prop) : Cell → Prop
  | .fn (.func f) fi ca => callW P st d f (evCaps fi ++ args ++ evCaps ca) refs K
  | _ => False
def nilW (st : St) (K : St → Prop) : Option Nat → Option (Nat × List (List D)) → Prop
  | some d, some (_, rows) => ∀ b, (rows ≠ [] → b = false) → K (putSlot st d ⟨.one, [.bool b]⟩)
  | _, _ => False
def GoodN (P : Program) (f : FuncId) (y : SV) (Q : List Cell → Prop) : Prop := ∀ (ω : Nat → Lab) (m : Mc) (v : Value), (∀ r, SVR ω m r v y) → Calls P f #[v] m.w fun e w' =>
  ∃ arr elem cs, e = .returned (.pointer (some ⟨m.w.heap.size, 0, none⟩)) ∧ w' = m.w.alloc (.cells arr elem) ∧ Q cs ∧ (∀ r, CRs ω m r 0 arr.toList cs) ∧ ∀ c ∈ cs, c.places = []
def CallN (P : Program) (f : FuncId) (y : SV) (k : List Cell → Prop) : Prop := Callable P f ∧ GoodN P f y k
theorem CallN_mono {P : Program} {f : FuncId} {y : SV} {k1 k2 : List Cell → Prop} (h : ∀ c, k1 c → k2 c) (hh : CallN P f y k1) : CallN P f y k2 :=
  ⟨hh.1, fun ω m v hv => Calls.mono (hh.2 ω m v hv) fun e w' ⟨a, b, cs, h1, h2, h3, h4⟩ => ⟨a, b, cs, h1, h2, h _ h3, h4⟩⟩
def cnewK (st : St) (d : Nat) (K : St → Prop) (cs : List Cell) : Prop := K (allocSt st d cs)
def cnewW (P : Program) (st : St) (f : FuncId) (K : St → Prop) (y : SV) : Option Nat → Prop
  | some d => CallN P f y (cnewK st d K)
  | none => False
def goW (P : Program) (st : St) (d : Option Nat) (K : St → Prop) : XOp → Prop
  | .call f args refs => callW P st d f (evArgs st args) refs K
  | .callv x args refs => callvW P st d (evArgs st args) refs K (evX st x).c1
  | .isnil x => nilW st K d (rowsOf st (evX st x).c1)
  | .cnew f x => cnewW P st f K (evX st x) d
  | op => Opt (step noE st d op) K
section
variable {P : Program} {ω : Nat → Lab} {m : Mc} {st : St} {o : Oper} {a : Act} {K : St → Prop}
theorem callR_sound {d : Option Nat} {f : FuncId} {args : List (Bool × SV)} {refs : List Nat} {vals : Array Value} (h : RR ω m st) (hd : ∀ t, d = some t → t < m.T.size)
    (hsz : vals.size = args.length) (hv : ∀ i own x, args[i]? = some (own, x) → (∀ r, SVR ω m r (vals.getD i undef) x) ∧ x.alOk st) (hs : callW P st d f args refs K) :
    Callable P f ∧ Calls P f vals m.w fun e w' => ∃ v ω' st', e = .returned v ∧ K st' ∧ RR ω' { m with w := w', T := (match d with | some d => m.T.setIfInBounds d v | none => m.T) } st' ∧
      Tr ω m ω' { m with w := w', T := (match d with | some d => m.T.setIfInBounds d v | none => m.T) } := by
  obtain ⟨hcc, hs⟩ := hs
  simp only [Bool.and_eq_true] at hcc
  have hc := hcc.1
  have hv : ∀ i own x, args[i]? = some (own, x) → (∀ r, SVR ω m r (vals.getD i undef) x) ∧ x.alOk st ∧ x.sh ≠ .no := fun i own x hx =>
    ⟨(hv i own x hx).1, (hv i own x hx).2, fun e => by
      have := List.all_eq_true.1 hcc.2 _ (List.mem_of_getElem? hx)
      simp [SV.known, e] at this⟩
  unfold callRf at hs
  split at hs
  · rename_i rf hrf
    obtain ⟨h1, h2⟩ := start_sound h hsz (fun i own x hx => (hv i own x hx).1) rfl hc.1 hrf
    refine ⟨hs.1, Calls.mono (hs.2 m.w _ _ vals h1 h2) ?_⟩
    rintro e w' ⟨v, ω', res, args', rf', rfl, ⟨hfr, hK⟩, h3, h4, h5⟩
    simp only [Bool.and_eq_true] at hfr
    have hal : ∀ y ∈ allLents st 0 args, ∃ i own x, args[i]? = some (own, x) ∧ y.2.1 = i ∧ x.get y.2.2 = .al ⟨y.1, []⟩ := fun y hy => by
      obtain ⟨i, own, x, h6, h7, h8⟩ := allLents_get hy
      refine ⟨i, own, x, h6, by omega, ?_⟩
      have hne := (hv i own x h6).2.2
      unfold SV.get
      split
      · contradiction
      · rw [h8]; rfl
    obtain ⟨h6, h7, h8, h9⟩ := after_sound (d := d.getD m.T.size) (args' := args') (rf' := rf') (vals := vals) (v := v) h hc.1 hc.2 hfr.1
      (fun r i c hm => by
        obtain ⟨i', own, x, e1, e2, e3⟩ := hal _ hm
        simp only at e2 e3; subst e2
        obtain ⟨u, hu, hcr⟩ := SVR_get ((hv _ own x e1).1 .res) (c := c) (by rw [e3]; simp)
        rw [e3] at hcr
        obtain ⟨⟨v0, hh, hp⟩, _⟩ := hcr
        simp only [onPath] at hp
        rw [hh, hp]; exact hu.symm)
      (fun r i c hm => by
        obtain ⟨i', own, x, e1, e2, e3⟩ := hal _ hm
        simp only at e2 e3; subst e2
        exact (hv _ own x e1).2.1 c ⟨r, []⟩ (by rw [e3]; simp [Cell.places]))
      hrf (fun j hj => by simpa using refsThere_spec hfr.2 j hj) h3 (h4 _ rfl) h5
    cases d with
    | none => exact ⟨v, _, _, rfl, hK, h6, h9⟩
    | some d => exact ⟨v, _, _, rfl, hK, h6.put (hd d rfl) h7 (h8 _), h9.trans (Tr.put (m := { m with w := w' }) d v)⟩
  · exact hs.elim
def XOkR (P : Program) (ω : Nat → Lab) (m : Mc) (o : Oper) (a : Act) (K : St → Prop) : Prop :=
  ∀ (next : Act → World → Prop) (Q : Exit → Act → World → Prop), (∀ st' a' w' ω' rb', K st' → a'.defers = a.defers → RR ω' ⟨a'.tmps, m.G, w', rb'⟩ st' → Tr ω m ω' ⟨a'.tmps, m.G, w', rb'⟩ → next a' w') → o.wp P a m.w next Q
theorem XOkR.call {f : FuncId} {xs : List (Bool × SV)} {vals : List Value} {refs : List Nat} (h : RR ω m st) (ha : a.tmps = m.T) (hd : ∀ t, o.dst = some t → t < m.T.size) (ht : Told ω m st vals xs)
    (hs : callW P st o.dst f xs refs K) (hr : (execOp a.eval o).run P m.w = (callFunc f vals.toArray).run P m.w) : XOkR P ω m o a K := by
  obtain ⟨h1, h2⟩ := callR_sound (vals := vals.toArray) h hd (by simpa using ht.1) (fun i own x hx => by
    have hi : i < vals.length := by rw [ht.1]; exact (List.getElem?_eq_some_iff.1 hx).1
    have := ht.2 i vals[i] own x (List.getElem?_eq_getElem hi) hx
    have e : vals.toArray.getD i undef = vals[i] := by simp [Array.getD, hi]
    rw [e]; exact this) hs
  intro next Q hn
  unfold Oper.wp
  rw [show (execOp a.eval o).run P m.w = .ok (.enter f vals.toArray) m.w by rw [hr]; exact run_callFunc h1, Oper.upon_enter]
  refine Calls.mono h2 ?_
  rintro e w' ⟨v, ω', st', rfl, hk, h2, h3⟩
  cases hd : o.dst with
  | none =>
    rw [hd] at h2 h3
    exact hn _ _ _ _ _ hk rfl (by simpa [Act.put, ha] using h2) (by simpa [Act.put, ha] using h3)
  | some d =>
    rw [hd] at h2 h3
    exact hn _ _ _ _ _ hk rfl (by simpa [Act.put, ha] using h2) (by simpa [Act.put, ha] using h3)
theorem run_isnil {t : TypeId} {e : TypeId} {w : World} {b : Option Addr} {l c l2 c2 : Nat} (ht : P.underlying t = some (.slice e)) : (binOp .eql t (.slice b l c) (.slice none l2 c2)).run P w = .ok (.bool b.isNone) w := by
  have h : ∀ d : Nat, (Op.equalIn (d + 1) t (.slice b l c) (.slice none l2 c2)).run P w = .ok b.isNone w := fun d => by
    cases b <;> simp [Op.equalIn, run_underlying ht]
  simp [binOp, Op.equal, Op.maxDepth, h 9999]
theorem nil_sound {x : XO} (h : RR ω m st) (ha : a.tmps = m.T) (hm : mE P o (.isnil x) = true) (hd : ∀ t, o.dst = some t → t < m.T.size) (hg : nilW st K o.dst (rowsOf st (evX st x).c1)) : XOkR P ω m o a K := by
  unfold nilW at hg
  split at hg
  · rename_i d sz rows hdd hr
    simp only [mE] at hm
    split at hm
    · rename_i op t z w pos ho
      simp only [Bool.and_eq_true, decide_eq_true_eq] at hm
      obtain ⟨⟨⟨rfl, hmx⟩, hw⟩, ht⟩ := hm
      have hc := (c1_of h ha hmx (c := (evX st x).c1) rfl (rowsOf_ne hr) (fun _ => .res 0)).1
      have hrd := rowsOf_sound h hc hr
      obtain ⟨b, cap, hv, hle, _, hb⟩ := hrd
      unfold nilOp at hw
      split at hw
      · rename_i l2 c2
        unfold tyIsSlice at ht
        split at ht
        · rename_i e hu
          have hq : QOk P ω m st o a ⟨.one, [.bool b.isNone]⟩ := by
            refine ⟨.bool b.isNone, ?_, fun r => one_sound rfl rfl, one_al (by simp [Cell.places])⟩
            have := run_isnil (P := P) (w := m.w) (b := b) (l := rows.length) (c := cap) (l2 := l2) (c2 := c2) hu
            have hev : a.eval (.const (.slice none l2 c2)) = .slice none l2 c2 := rfl
            have hgd : ∀ px py, eqGuard .eql t px py (.slice b rows.length cap) (.slice none l2 c2) = pure () := fun _ _ => eqGuard_at_slice ..
            simp only [execOp, ho, hv, hev, hgd]
            simp [this]
          intro next Q hn
          refine XOk.of_e ha hdd (EOk.of_q h (hd d hdd) hq) next Q fun a' w' ω' rb' h1 h2 h3 => hn _ a' w' ω' rb' (hg _ fun hne => ?_) h1 h2 h3
          rcases hb with hb | ⟨ad, _, _, _, rfl, _⟩
          · subst hb
            have : rows.length = 0 := by omega
            exact absurd (List.length_eq_zero_iff.1 this) hne
          · rfl
        · simp at ht
      · simp at hw
    · simp at hm
  · exact hg.elim
theorem cnew_sound {f : FuncId} {x : XO} (h : RR ω m st) (ha : a.tmps = m.T) (hm : mE P o (.cnew f x) = true) (hd : ∀ t, o.dst = some t → t < m.T.size ∧ t < KEY) (hg : cnewW P st f K (evX st x) o.dst) : XOkR P ω m o a K := by
  simp only [mE] at hm
  split at hm
  · rename_i f' zs tys ho
    simp only [Bool.and_eq_true, beq_iff_eq] at hm
    obtain ⟨rfl, hm⟩ := hm
    obtain ⟨z, hz, hzx⟩ : ∃ z, zs.toList = [z] ∧ mO z x = true := by
      obtain ⟨h1, h2⟩ := mOs_get hm
      obtain ⟨z, e1, e2⟩ := h2 0 x rfl
      refine ⟨z, ?_, e2⟩
      match hl : zs.toList, h1, e1 with
      | [z'], _, e1 => simp at e1; rw [e1]
    have hzs : zs = #[z] := Array.ext' hz
    subst hzs
    cases hdd : o.dst with
    | none => rw [hdd] at hg; exact hg.elim
    | some d =>
      rw [hdd] at hg
      obtain ⟨hc, hgd⟩ := hg
      intro next Q hn
      unfold Oper.wp
      rw [show (execOp a.eval o).run P m.w = .ok (.enter f' #[a.eval z]) m.w by
        rw [← run_callFunc hc]
        simp only [execOp, ho, resolve, Act.eval, Deferred.ofValue, pure_bind, invoke]
        congr 2
        apply Array.ext'
        simp [Act.eval], Oper.upon_enter]
      refine Calls.mono (hgd ω m (a.eval z) (fun r => evX_sound h ha hzx r)) ?_
      rintro e w' ⟨arr, elem, cs, rfl, rfl, hk, hcs, hpl⟩
      have h1 := newRef_sound (elem := elem) (d := d) h hcs (fun c hc p hp => by rw [hpl c hc] at hp; simp at hp)
      have h2 := h1.put (d := d) (v := .pointer (some ⟨m.w.heap.size, 0, none⟩)) (x := ⟨.one, [.ptr d 0]⟩) (hd d hdd).1 (one_sound rfl (by simp [CRx, ptrV])) (one_al (by simp [Cell.places]))
      have h3 := (Tr.newRef (ω := ω) (m := m) (hd d hdd).2 (.cells arr elem) (.blk d)).trans (Tr.put d (.pointer (some ⟨m.w.heap.size, 0, none⟩)))
      simp only [hdd]
      exact hn _ _ _ _ _ hk rfl (by simpa [Act.put, ha, allocSt] using h2) (by simpa [Act.put, ha] using h3)
  · simp at hm
theorem goW_sound {op : XOp} (h : RR ω m st) (ha : a.tmps = m.T) (hm : mE P o op = true) (hd : ∀ t, o.dst = some t → t < m.T.size ∧ t < KEY) (hg : goW P st o.dst K op) : XOkR P ω m o a K := by
  have hd1 : ∀ t, o.dst = some t → t < m.T.size := fun t ht => (hd t ht).1
  unfold goW at hg
  split at hg
  · simp only [mE] at hm
    split at hm
    · rename_i f' zs tys ho
      simp only [Bool.and_eq_true, beq_iff_eq] at hm
      obtain ⟨rfl, hm⟩ := hm
      refine XOkR.call h ha hd1 (told_args h ha hm) hg ?_
      simp only [execOp, ho, resolve, Act.eval, Deferred.ofValue, pure_bind, invoke]
      congr 2
      apply Array.ext'
      simp
    · simp at hm
  · simp only [mE] at hm
    split at hm
    · rename_i z zs tys ho
      simp only [Bool.and_eq_true] at hm
      obtain ⟨hmx, hm⟩ := hm
      unfold callvW at hg
      split at hg
      · rename_i f fi ca hc
        have hcc := c1_of h ha hmx hc (by simp) (fun _ => .res 0)
        obtain ⟨⟨fv, cv, hv, h1, h2⟩, hp⟩ := hcc
        simp only [Cell.places, List.mem_append] at hp
        have ht := ((told_caps (st := st) h1 fun p hpp => hp p (.inl hpp)).append (told_args h ha hm)).append (told_caps (st := st) h2 fun p hpp => hp p (.inr hpp))
        refine XOkR.call h ha hd1 ht hg ?_
        simp only [execOp, ho, resolve, hv, Deferred.ofValue, pure_bind, invoke]
        congr 2
        apply Array.ext'
        simp
      · exact hg.elim
    · simp at hm
  · exact nil_sound h ha hm hd1 hg
  · exact cnew_sound h ha hm hd hg
  · obtain ⟨st', hs, hK⟩ := hg
    exact fun next Q hn => step_sound noE_ok h ha hm hd hs next Q fun a' w' ω' rb' h1 h2 h3 => hn st' a' w' ω' rb' hK h1 h2 h3
end
theorem callW_mono {P : Program} {st : St} {d : Option Nat} {f : FuncId} {args : List (Bool × SV)} {refs : List Nat} {K1 K2 : St → Prop} (hk : ∀ s, K1 s → K2 s) (h : callW P st d f args refs K1) : callW P st d f args refs K2 := by
  refine ⟨h.1, ?_⟩
  have h2 := h.2
  unfold callRf at h2 ⊢
  split
  · rename_i rf hrf
    rw [hrf] at h2
    exact CallR_mono (fun _ _ _ hh => ⟨hh.1, hk _ hh.2⟩) h2
  · rename_i hrf
    rw [hrf] at h2
    exact h2
theorem nilW_mono {st : St} {K1 K2 : St → Prop} (hk : ∀ s, K1 s → K2 s) : ∀ {d : Option Nat} {o : Option (Nat × List (List D))}, nilW st K1 d o → nilW st K2 d o
  | some _, some _, h => fun b hb => hk _ (h b hb)
  | some _, none, h => h
  | none, some _, h => h
  | none, none, h => h
theorem goW_mono {P : Program} {st : St} {d : Option Nat} {op : XOp} {K1 K2 : St → Prop} (hk : ∀ s, K1 s → K2 s) (h : goW P st d K1 op) : goW P st d K2 op := by
  unfold goW at h ⊢
  split
  · exact callW_mono hk h
  · simp only at h
    unfold callvW at h ⊢
    split
    · rename_i hc
      rw [hc] at h
      exact callW_mono hk h
    · rename_i hno
      split at h
      · rename_i hc; exact absurd hc (hno _ _ _)
      · exact h
  · rename_i x
    exact nilW_mono hk h
  · cases d with
    | none => exact h
    | some d => exact CallN_mono (fun _ => hk _) h
  · rename_i h1 h2 h3 h4
    split at h
    · exact absurd rfl (h1 _ _ _)
    · exact absurd rfl (h2 _ _ _)
    · exact absurd rfl (h3 _)
    · exact absurd rfl (h4 _ _)
    · exact Opt_mono hk h
class Fc (P : Program) (f : FuncId) (args : List SV) (rf : Refs) (pre : outParam Prop) (res : outParam SV) (args' : outParam (List SV)) (rf' : outParam Refs) : Prop where
  ok : pre → Callable P f ∧ Good P f args rf res args' rf'
theorem Fc.of {P : Program} {f : FuncId} {args : List SV} {rf : Refs} {pre : Prop} {res : SV} {args' : List SV} {rf' : Refs} {k : SV → List SV → Refs → Prop} (h : Fc P f args rf pre res args' rf') (hp : pre) (hk : k res args' rf') : CallR P f args rf k :=
  ⟨(h.ok hp).1, (h.ok hp).2.toR hk⟩
theorem Fc.ofW {P : Program} {f : FuncId} {args : List SV} {rf : Refs} {pre : Prop} {res : SV} {args' : List SV} {rf' : Refs} {k : SV → List SV → Refs → Prop} (h : Fc P f args rf pre res args' rf') (hp : pre) (hk : k res args' rf') : CallW P f args rf k :=
  ⟨res, args', rf', (h.ok hp).1, (h.ok hp).2, hk⟩
class FcR (P : Program) (f : FuncId) (args : List SV) (rf : Refs) (pre : outParam Prop) (α : outParam Type) (I : outParam (α → Prop)) (res : outParam (α → SV)) (args' : outParam (α → List SV)) (rf' : outParam (α → Refs)) : Prop where
  ok : pre → Callable P f ∧ GoodR P f args rf fun r a g => ∃ x, I x ∧ r = res x ∧ a = args' x ∧ g = rf' x
theorem FcR.of {P : Program} {f : FuncId} {args : List SV} {rf : Refs} {pre : Prop} {α : Type} {I : α → Prop} {res : α → SV} {args' : α → List SV} {rf' : α → Refs} {k : SV → List SV → Refs → Prop} (h : FcR P f args rf pre α I res args' rf') (hp : pre) (hk : ∀ x, I x → k (res x) (args' x) (rf' x)) : CallR P f args rf k :=
  CallR_mono (by rintro _ _ _ ⟨x, hx, rfl, rfl, rfl⟩; exact hk x hx) (h.ok hp)
class FcN (P : Program) (f : FuncId) (y : SV) (pre : outParam Prop) (α : outParam Type) (I : outParam (α → Prop)) (cs : outParam (α → List Cell)) : Prop where
  ok : pre → Callable P f ∧ GoodN P f y fun c => ∃ x, I x ∧ c = cs x
theorem FcN.of {P : Program} {f : FuncId} {y : SV} {pre : Prop} {α : Type} {I : α → Prop} {cs : α → List Cell} {k : List Cell → Prop} (h : FcN P f y pre α I cs) (hp : pre) (hk : ∀ x, I x → k (cs x)) : CallN P f y k :=
  CallN_mono (by rintro _ ⟨x, hx, rfl⟩; exact hk x hx) (h.ok hp)
def keepS {α : Type} (p : Nat → Bool) : List (Nat × α) → List (Nat × α)
  | [] => []
  | (j, v) :: l => match p j with
    | true => (j, v) :: keepS p l
    | false => keepS p l
def dropsOwnS (p : Nat → Bool) : Slots → Bool
  | [] => false
  | (j, v) :: l => (!p j && v.owns) || dropsOwnS p l
def dropsOwnR (p : Nat → Bool) : Refs → Bool
  | [] => false
  | (j, cs) :: l => (!p j && cs.any Cell.isOwn) || dropsOwnR p l
def rootKept (p q : Nat → Bool) : Root → Bool
  | .slot s _ => p s
  | .ref k _ => q k
  | _ => true
def hitF (p q : Nat → Bool) (c : Cell) : Bool := c.places.any fun x => !rootKept p q x.r
def forget (p q : Nat → Bool) (st : St) : St :=
  if dropsOwnS p st.sl || dropsOwnR q st.rf then ⟨keepS p (st.filt (hitF p q)).sl, keepS q (st.filt (hitF p q)).rf, (st.filt (hitF p q)).gh⟩
  else ⟨keepS p st.sl, keepS q st.rf, st.gh⟩
theorem look_keepS {p : Nat → Bool} : ∀ (l : Slots) (s : Nat), look (keepS p l) s = if p s then look l s else .undef
  | [], s => by simp [keepS, look]
  | (j, v) :: l, s => by
    have ih := look_keepS (p := p) l s
    simp only [keepS]
    split
    · rename_i hp
      simp only [look]
      split
      · rename_i e; subst e; rw [if_pos hp]
      · exact ih
    · rename_i hp
      rw [ih]
      by_cases e : j = s
      · subst e; simp [hp, look]
      · simp [look, e]
theorem lookR_keepS {p : Nat → Bool} : ∀ (l : Refs) (s : Nat), lookR (keepS p l) s = if p s then lookR l s else none
  | [], s => by simp [keepS, lookR]
  | (j, v) :: l, s => by
    have ih := lookR_keepS (p := p) l s
    simp only [keepS]
    split
    · rename_i hp
      simp only [lookR]
      split
      · rename_i e; subst e; rw [if_pos hp]
      · exact ih
    · rename_i hp
      rw [ih]
      by_cases e : j = s
      · subst e; simp [hp, lookR]
      · simp [lookR, e]
theorem dropsOwnS_spec {p : Nat → Bool} : ∀ {l : Slots} {s : Nat}, dropsOwnS p l = false → p s = false → (look l s).owns = false
  | [], s, _, _ => rfl
  | (j, v) :: l, s, h, hp => by
    simp only [dropsOwnS, Bool.or_eq_false_iff, Bool.and_eq_false_iff] at h
    simp only [look]
    split
    · rename_i e; subst e
      rcases h.1 with h1 | h1
      · simp [hp] at h1
      · exact h1
    · exact dropsOwnS_spec h.2 hp
theorem dropsOwnR_spec {p : Nat → Bool} : ∀ {l : Refs} {s : Nat} {cs : List Cell}, dropsOwnR p l = false → p s = false → lookR l s = some cs → cs.any Cell.isOwn = false
  | [], s, _, _, _, h => by simp [lookR] at h
  | (j, v) :: l, s, cs, h, hp, hl => by
    simp only [dropsOwnR, Bool.or_eq_false_iff, Bool.and_eq_false_iff] at h
    simp only [lookR] at hl
    split at hl
    · rename_i e; subst e
      simp only [Option.some.injEq] at hl; subst hl
      rcases h.1 with h1 | h1
      · simp [hp] at h1
      · exact h1
    · exact dropsOwnR_spec h.2 hp hl
section
variable {P : Program} {E : Env} {ω : Nat → Lab} {m : Mc} {st : St}
theorem mapS_false : ∀ (l : Slots), mapS l (SV.filt fun _ => false) = l
  | [] => rfl
  | (j, v) :: l => by
    have : v.filt (fun _ => false) = v := by
      obtain ⟨sh, cs⟩ := v
      simp only [SV.filt, SV.mk.injEq, true_and]
      exact (List.map_congr_left fun c _ => by simp [Cell.filt]).trans (List.map_id cs)
    have ih := mapS_false l
    simp only [mapS, List.map_cons] at ih ⊢
    rw [this, ih]
theorem mapR_false : ∀ (l : Refs), mapR l (fun cs => cs.map (Cell.filt fun _ => false)) = l
  | [] => rfl
  | (j, v) :: l => by
    have : v.map (Cell.filt fun _ => false) = v := (List.map_congr_left fun c _ => by simp [Cell.filt]).trans (List.map_id v)
    have ih := mapR_false l
    simp only [mapR, List.map_cons] at ih ⊢
    rw [this, ih]
theorem filt_false (st : St) : st.filt (fun _ => false) = st := by simp only [St.filt, mapS_false, mapR_false]
theorem R.keep {p q : Nat → Bool} (h : R ω m st) : R ω m ⟨keepS p st.sl, keepS q st.rf, st.gh⟩ := by
  refine ⟨fun s => ?_, h.gh, fun k cs hk => ?_⟩
  · simp only [look_keepS]
    split
    · exact h.sl s
    · exact SVR_no rfl
  · simp only [lookR_keepS] at hk
    split at hk
    · exact h.rf k cs hk
    · simp at hk
theorem rootCell_keep {p q : Nat → Bool} (r : Root) : rootCell ⟨keepS p st.sl, keepS q st.rf, st.gh⟩ r = if rootKept p q r then rootCell st r else .undef := by
  cases r with
  | slot s c =>
    simp only [rootCell, look_keepS, rootKept]
    by_cases hp : p s = true <;> simp [hp, SV.get]
  | ref k c =>
    simp only [rootCell, lookR_keepS, rootKept]
    by_cases hq : q k = true <;> simp [hq]
  | gho _ _ => simp [rootKept, rootCell]
  | res _ => simp [rootKept, rootCell]
theorem RR.forget {p q : Nat → Bool} (h : RR ω m st) : RR ω m (Eng.forget p q st) := by
  unfold Eng.forget
  split
  · have h1 := h.r.sameW (m' := m) (hitF p q) rfl rfl rfl (fun _ => .inl rfl) (fun _ _ _ _ => rfl)
    have h2 : AlOk (st.filt (hitF p q)) := h.al.filt (fun c hc => by cases c <;> simp [Cell.isOwn] at hc; simp [hitF, Cell.places])
    refine ⟨h1.keep, fun r x hx => ?_⟩
    rw [rootCell_keep] at hx ⊢
    split at hx
    · have h3 := h2 r x hx
      rw [rootCell_filt] at hx
      obtain ⟨hf, hx'⟩ := Cell.filt_place hx
      have : rootKept p q x.r = true := by
        simp only [hitF, List.any_eq_false] at hf
        simpa using hf x hx'
      rw [if_pos this]; exact h3
    · simp [Cell.places] at hx
  · rename_i hno
    simp only [Bool.or_eq_true, not_or, Bool.not_eq_true] at hno
    refine ⟨h.r.keep, fun r x hx => ?_⟩
    rw [rootCell_keep] at hx ⊢
    split at hx
    · have h3 := h.al r x hx
      rw [if_pos]; exact h3
      cases hr : x.r with
      | slot s c =>
        rw [hr] at h3
        cases hp : p s with
        | true => exact hp
        | false =>
          have := dropsOwnS_spec hno.1 hp
          have h4 := SV.owns_get (v := look st.sl s) (c := c) h3
          rw [this] at h4; simp at h4
      | ref k c =>
        rw [hr] at h3
        cases hq : q k with
        | true => exact hq
        | false =>
          simp only [rootCell] at h3
          cases hl : lookR st.rf k with
          | none => simp [hl, Cell.isOwn] at h3
          | some cs =>
            have := dropsOwnR_spec hno.2 hq hl
            simp only [hl] at h3
            cases hg : cs[c]? with
            | none => simp [hg, Cell.isOwn] at h3
            | some d =>
              simp only [hg, Option.getD_some] at h3
              rw [List.any_eq_false] at this
              exact absurd h3 (this d (List.mem_of_getElem? hg))
      | gho _ _ => rfl
      | res _ => rfl
    · simp [Cell.places] at hx
end
structure XI where
  dst : Option Nat
  guard : Option (Nat × Bool)
  op : XOp
  kill : List Nat
inductive XL where
  | nil
  | op (i : XI) (rest : XL)
  | sc (t : Nat) (want : Bool) (blk : XL) (ks : List Nat) (d : Nat) (g : Option (Nat × Bool)) (c rhs : XO) (kill : List Nat) (rest : XL)
def Br (b : Bool) (f : Bool → Prop) : Prop := f b
theorem Br_true {f : Bool → Prop} : Br true f = f true := rfl
theorem Br_false {f : Bool → Prop} : Br false f = f false := rfl
theorem Br_of {b : Bool} {f : Bool → Prop} (h1 : b = true → f true) (h2 : b = false → f false) : Br b f := by cases b; exact h2 rfl; exact h1 rfl
def killSt (l : List Nat) (st : St) : St := match l with
  | [] => st
  | l => forget (fun s => !l.contains s) (fun _ => true) st
def inR : List Nat → Nat → Bool
  | a :: b :: l, s => if s < a then false else if s ≤ b then true else inR l s
  | _, _ => false
def killR (l : List Nat) (st : St) : St := match l with
  | [] => st
  | l => forget (fun s => !inR l s) (fun _ => true) st
def killK (l : List Nat) (K : St → Prop) (st : St) : Prop := K (killR l st)
def skipDst (st : St) (d : Option Nat) : St := match d with
  | some d => putSlot st d .undef
  | none => st
def guardK (want : Bool) (yes no : St → Prop) (st : St) : Bool → Prop
  | true => match want with
    | true => yes st
    | false => no st
  | false => match want with
    | true => no st
    | false => yes st
def goK (P : Program) (i : XI) (K : St → Prop) (st : St) : Prop := goW P st i.dst (killK i.kill K) i.op
def skipK (i : XI) (K : St → Prop) (st : St) : Prop := K (killR i.kill (skipDst st i.dst))
def pickXI (want : Bool) (d : Nat) (g : Option (Nat × Bool)) (c rhs : XO) : XI :=
  ⟨some d, g, .pick c (match want with | true => rhs | false => .c ⟨.one, [.bool true]⟩) (match want with | true => .c ⟨.one, [.bool false]⟩ | false => rhs), []⟩
def XL.flat : XL → List XI
  | .nil => []
  | .op i r => i :: r.flat
  | .sc t want blk ks d g c rhs kill r => blk.flat ++ pickXI want d g c rhs :: r.flat
def gateOk (g : Option (Nat × Bool)) (st : St) : Prop := match g with
  | none => True
  | some (t, w) => (look st.sl t).c1 = .bool w
def deadOk (t : Nat) (want : Bool) : List Nat → List XI → Bool
  | _, [] => true
  | U, i :: is => (match i.guard, i.dst with
    | some (g, w), some d => ((g == t && w == want) || U.contains g) && !(d == t)
    | _, _ => false) && deadOk t want (match i.dst with | some d => d :: U | none => U) is
def dstsOf : List XI → List Nat
  | [] => []
  | i :: is => match i.dst with
    | some d => d :: dstsOf is
    | none => dstsOf is
def scEnd (rhs : XO) (x : Bool) (ks : List Nat) (st0 : St) (st1 : St) : Prop := (evX st1 rhs).c1 = .bool x ∧ killSt ks st1 = st0
def scVal (want b x : Bool) : Bool := match want with
  | true => b && x
  | false => b || x
def scEndE (want : Bool) (ks : List Nat) (d : Nat) (g : Option (Nat × Bool)) (c rhs : XO) (K : St → Prop) (st1 : St) : Prop :=
  ∃ x, (evX st1 rhs).c1 = .bool x ∧ (evX (killSt ks st1) c).c1 = .bool want ∧ gateOk g (killSt ks st1) ∧ K (putSlot (killSt ks st1) d ⟨.one, [.bool x]⟩)
def scEndD (b : Bool) (ks : List Nat) (d : Nat) (g : Option (Nat × Bool)) (c : XO) (K : St → Prop) (st : St) : Prop :=
  (evX (killSt ks st) c).c1 = .bool b ∧ gateOk g (killSt ks st) ∧ K (putSlot (killSt ks st) d ⟨.one, [.bool b]⟩)
def ScW (want : Bool) (b : Bool) (blk : (St → Prop) → St → Prop) (t : Nat) (ks : List Nat) (d : Nat) (g : Option (Nat × Bool)) (c rhs : XO) (K : St → Prop) (st : St) : Prop :=
  (putSlot st t ⟨.one, [.bool b]⟩ = st ∧ (evX (killSt ks st) c).c1 = .bool b ∧ gateOk g (killSt ks st) ∧
  ∃ x, (b = want → blk (scEnd rhs x ks (killSt ks (putSlot st t ⟨.one, [.bool want]⟩))) (putSlot st t ⟨.one, [.bool want]⟩)) ∧ K (putSlot (killSt ks st) d ⟨.one, [.bool (scVal want b x)]⟩)) ∨
  ((b = want → blk (scEndE want ks d g c rhs K) (putSlot st t ⟨.one, [.bool want]⟩)) ∧ ((!b) = want → scEndD b ks d g c K st))
def WI (P : Program) : XL → (St → Prop) → St → Prop
  | .nil, K, st => K st
  | .op i is, K, st => match i.guard with
    | none => goK P i (WI P is K) st
    | some (t, want) => match (look st.sl t).c1 with
      | .bool b => Br b (guardK want (goK P i (WI P is K)) (skipK i (WI P is K)) st)
      | _ => False
  | .sc t want blk ks d g c rhs kill is, K, st => match (look st.sl t).c1 with
    | .bool b => ScW want b (WI P blk) t ks d g c rhs (killK kill (WI P is K)) st
    | _ => False
def mG (ops : Array Oper) : Option (Nat × Bool) → Option (Nat × Bool) → Bool
  | none, none => true
  | some (g, w), some (t, w') => w == w' && decide ((ops[g]?).bind (·.dst) = some t)
  | _, _ => false
def mI (P : Program) (N : Nat) (ops : Array Oper) (o : Oper) (i : XI) : Bool :=
  decide (o.dst = i.dst) && (match o.dst with
    | some d => decide (d < N) && decide (d < KEY)
    | none => true) && mG ops o.guard i.guard && mE P o i.op
def mIs (P : Program) (N : Nat) (ops : Array Oper) : List Oper → List XI → Bool
  | [], [] => true
  | o :: os, i :: is => mI P N ops o i && mIs P N ops os is
  | _, _ => false
def scOk : XL → Bool
  | .nil => true
  | .op _ r => scOk r
  | .sc t want blk ks d g c rhs kill r => deadOk t want [] blk.flat && ((dstsOf blk.flat).all fun d => ks.contains d) && scOk blk && scOk r
def St.le (a b : St) : Prop := (∀ t, look a.sl t = look b.sl t ∨ (look a.sl t).sh = .no) ∧ (∀ k cs, lookR a.rf k = some cs → lookR b.rf k = some cs) ∧ a.gh = b.gh
def dropOnly (l : List Nat) (st : St) : St := match l with
  | [] => st
  | l => ⟨keepS (fun s => !l.contains s) st.sl, keepS (fun s => !l.contains s) st.rf, st.gh⟩
section
variable {a b : St}
theorem le_evX (h : a.le b) (x : XO) : evX b x = evX a x ∨ (evX a x).sh = .no := by
  cases x with
  | c x => exact .inl rfl
  | s t =>
    rcases h.1 t with e | e
    · left; simp only [evX, e]
    · right; exact e
theorem le_known (h : a.le b) {x : XO} (hk : (evX a x).sh ≠ .no) : evX b x = evX a x := (le_evX h x).resolve_right hk
theorem le_c1 (h : a.le b) {x : XO} {c : Cell} (hc : (evX a x).c1 = c) (hne : c ≠ .undef) : (evX b x).c1 = c := by
  rw [le_known h, hc]
  intro e; rw [SV.c1, e] at hc; exact hne hc.symm
theorem le_root (h : a.le b) {r : Root} (hne : rootCell a r ≠ .undef) : rootCell b r = rootCell a r := by
  cases r with
  | slot s c =>
    simp only [rootCell] at hne ⊢
    rcases h.1 s with e | e
    · rw [e]
    · exact absurd (by simp [SV.get, e]) hne
  | gho s c => simp only [rootCell, h.2.2]
  | ref k c =>
    simp only [rootCell] at hne ⊢
    cases hl : lookR a.rf k with
    | none => rw [hl] at hne; simp at hne
    | some cs => rw [h.2.1 k cs hl]
  | res c => rfl
theorem le_rows (h : a.le b) {p : Pl} {x : Nat × List (List D)} (hx : rowsAt a p = some x) : rowsAt b p = some x := by
  have hne : rootCell a p.r ≠ .undef := by intro e; simp [rowsAt, e] at hx
  simp only [rowsAt, le_root h hne] at hx ⊢; exact hx
theorem le_rowsOf (h : a.le b) {c : Cell} {x : Nat × List (List D)} (hx : rowsOf a c = some x) : rowsOf b c = some x := by
  cases c <;> simp only [rowsOf] at hx ⊢ <;> first | exact hx | exact le_rows h hx | simp at hx
theorem le_load (h : a.le b) {ag : Bool} {n : Nat} {c : Cell} {y : SV} (hx : load a ag n c = some y) : load b ag n c = some y := by
  cases c <;> simp only [load] at hx ⊢ <;> first | exact hx | skip
  · split at hx
    · rename_i cs hcs; rw [h.2.1 _ _ hcs]; exact hx
    · simp at hx
  · split at hx
    · rename_i sz rows hr; rw [le_rows h hr]; exact hx
    · simp at hx
theorem le_lo (h : a.le b) {x : Option XO} {n : Int} (hx : loBound a x = some n) : loBound b x = some n := by
  cases x with
  | none => exact hx
  | some x =>
    simp only [loBound] at hx ⊢
    split at hx
    · rename_i k m hc; rw [le_c1 h hc (by simp)]; exact hx
    · simp at hx
theorem le_hi (h : a.le b) {l : Nat} {x : Option XO} {n : Int} (hx : hiBound a l x = some n) : hiBound b l x = some n := by
  cases x with
  | none => exact hx
  | some x =>
    simp only [hiBound] at hx ⊢
    split at hx
    · rename_i k m hc; rw [le_c1 h hc (by simp)]; exact hx
    · simp at hx
def vq (st : St) (op : XOp) : Option SV := match op with
  | .mv _ => qop st op
  | .pick _ _ _ => qop st op
  | .load _ _ _ => qop st op
  | .bin _ _ _ => qop st op
  | .binB _ _ _ => qop st op
  | .eqs _ _ _ _ => qop st op
  | .un _ _ => qop st op
  | .convI _ _ => qop st op
  | .b2s _ => qop st op
  | .slcS _ _ _ => qop st op
  | .slcR _ _ _ _ => qop st op
  | .fad _ _ => qop st op
  | .iad _ _ _ => qop st op
  | .idx _ _ => qop st op
  | .ext _ _ => qop st op
  | .len _ _ => qop st op
  | .mm _ _ _ => qop st op
  | .nilc _ => qop st op
  | _ => none
theorem c1_bin {op : BinOp} {c d : Cell} {x : SV} (h : (binC op c d).bind one = some x) : c ≠ .undef ∧ d ≠ .undef := by
  constructor <;> intro e <;> subst e
  · simp [binC] at h
  · cases c <;> simp [binC] at h
theorem le_vq (h : a.le b) {op : XOp} {y : SV} (hk : y.sh ≠ .no) (hq : vq a op = some y) : vq b op = some y := by
  cases op <;> simp only [vq, qop] at hq ⊢ <;> try (simp at hq; done)
  · simp only [Option.some.injEq] at hq ⊢
    subst hq; exact le_known h hk
  · split at hq
    · rename_i t hc
      rw [le_c1 h hc (by simp)]
      simp only [Option.some.injEq] at hq ⊢
      cases t <;> simp only [Bool.false_eq_true, if_false, if_true] at hq ⊢ <;> subst hq <;> exact le_known h hk
    · simp at hq
  · rename_i ag n x
    by_cases hc : (evX a x).c1 = .undef
    · rw [hc] at hq; simp [load] at hq
    · rw [le_c1 h rfl hc]; exact le_load h hq
  · rename_i x
    by_cases hc : (evX a x).c1 = .undef
    · rw [hc] at hq; simp at hq
    · rw [le_c1 h rfl hc]; exact hq
  · rename_i op x z
    obtain ⟨h1, h2⟩ := c1_bin hq
    rw [le_c1 h rfl h1, le_c1 h rfl h2]; exact hq
  · split at hq
    · rename_i h1 h2
      rw [le_known h (by rw [h1]; simp), le_known h (by rw [h2]; simp), h1, h2]; exact hq
    · simp at hq
  · split at hq
    · rename_i p q hp hq'; rw [le_c1 h hp (by simp), le_c1 h hq' (by simp)]; exact hq
    · simp at hq
  · rename_i op x
    by_cases hc : (evX a x).c1 = .undef
    · rw [hc] at hq; simp [unC] at hq
    · rw [le_c1 h rfl hc]; exact hq
  · split at hq
    · rename_i k n hc; rw [le_c1 h hc (by simp)]; exact hq
    · simp at hq
  · rename_i x
    split at hq
    · rename_i sz rows hr
      have hne : (evX a x).c1 ≠ .undef := by intro e; rw [e] at hr; simp [rowsOf] at hr
      rw [le_c1 h rfl hne, le_rowsOf h hr]; exact hq
    · simp at hq
  · split at hq
    · rename_i s hc
      rw [le_c1 h hc (by simp)]
      simp only at hq ⊢
      split at hq
      · rename_i l u hl hu; rw [le_lo h hl, le_hi h hu]; exact hq
      · simp at hq
    · simp at hq
  · split at hq
    · rename_i sz rows hc
      rw [le_c1 h hc (by simp)]
      simp only at hq ⊢
      split at hq
      · rename_i l u hl hu; rw [le_lo h hl, le_hi h hu]; exact hq
      · simp at hq
    · simp at hq
  · rename_i off x
    by_cases hc : (evX a x).c1 = .undef
    · rw [hc] at hq; simp at hq
    · rw [le_c1 h rfl hc]; exact hq
  · rename_i sz x i
    split at hq
    · rename_i k n hc
      rw [le_c1 h hc (by simp)]
      simp only at hq ⊢
      split at hq
      · rename_i sz' rows hx; rw [le_c1 h hx (by simp)]; exact hq
      · rename_i p hx
        rw [le_c1 h hx (by simp)]
        simp only at hq ⊢
        split at hq
        · rename_i sz' rows hr; rw [le_rows h hr]; exact hq
        · simp at hq
      · simp at hq
    · simp at hq
  · split at hq
    · rename_i s k n hs hn; rw [le_c1 h hs (by simp), le_c1 h hn (by simp)]; exact hq
    · simp at hq
  · rename_i i x
    split at hq
    · rename_i l hl; rw [le_known h (by rw [hl]; simp), hl]; exact hq
    · simp at hq
  · rename_i str x
    cases str with
    | true =>
      split at hq
      · rename_i s hc hs; rw [le_c1 h hs (by simp)]; exact hq
      · exact absurd ‹true = false› (by decide)
      · simp at hq
    | false =>
      simp only at hq ⊢
      split at hq
      · rename_i sz rows hr
        have hne : (evX a x).c1 ≠ .undef := by intro e; rw [e] at hr; simp [rowsOf] at hr
        rw [le_c1 h rfl hne, le_rowsOf h hr]; exact hq
      · simp at hq
  · split at hq
    · rename_i k p k' q hp hq'; rw [le_c1 h hp (by simp), le_c1 h hq' (by simp)]; exact hq
    · simp at hq
end
def lendOk (st : St) : List Cell → Bool
  | [] => true
  | c :: cs => (match c with
    | .undef => true
    | .int _ _ => true
    | .bool _ => true
    | .str _ => true
    | .ro _ _ => true
    | .rptr _ => true
    | .own _ [] => true
    | .al p => (rowsAt st p).isSome
    | _ => false) && lendOk st cs
def scalCells : List Cell → Option (List D)
  | [] => some []
  | .int k n :: cs => (match scalCells cs with | some l => some (.int k n :: l) | none => none)
  | .bool b :: cs => (match scalCells cs with | some l => some (.bool b :: l) | none => none)
  | .str s :: cs => (match scalCells cs with | some l => some (.str s :: l) | none => none)
  | _ => none
def argsOk (st : St) : List (Bool × SV) → Bool
  | [] => true
  | (own, x) :: l => !own && x.known && lendOk st x.cs && argsOk st l
def Cell.notAl : Cell → Bool
  | .al _ => false
  | _ => true
theorem takes_none (x : XO) (tk : Bool) (r : Nat → Root) : ∀ (j : Nat) (cs : List Cell), cs.all Cell.notAl = true → takes x tk r j cs = []
  | _, [], _ => rfl
  | j, c :: cs, h => by
    simp only [List.all_cons, Bool.and_eq_true] at h
    simp only [takes, takes_none x tk r (j + 1) cs h.2]
    cases c <;> first | rfl | simp [Cell.notAl] at h
def vop (E : Env) (st : St) (op : XOp) : Option SV := match op with
  | .call f args refs => match refs with
    | [] => if argsOk st (evArgs st args) then (match E f (callArgs st [] [] (evArgs st args)) [] with
      | some (res, _, _) => if res.fresh then some res else none
      | none => none) else none
    | _ => none
  | .bslice sz parts => match partCells st parts with
    | some cs => match scalCells cs with
      | some ds => if cs.length = parts.length * sz ∧ (parts.all fun x => (evX st x).cs.length == sz) = true then some ⟨.one, [.own sz (chunk sz parts.length ds)]⟩ else none
      | none => none
    | none => none
  | .build zero parts => match buildCells st zero parts with
    | some cs => some ⟨.agg, cs⟩
    | none => none
  | .asg x _ => if (evX st x).cs.all Cell.notAl then some (evX st x) else none
  | .mks sz bytes zero l => match (evX st l).c1 with
    | .int _ n => if 0 ≤ n ∧ n.toNat * bytes ≤ 140737488355328 ∧ n ≤ 9223372036854775807 ∧ zero.length = sz then some ⟨.one, [.own sz (List.replicate n.toNat zero)]⟩ else none
    | _ => none
  | op => vq st op
section
variable {E : Env} {a b : St}
theorem le_build (h : a.le b) : ∀ {ps : List (Nat × Nat × XO)} {cs cs' : List Cell}, buildCells a cs ps = some cs' → buildCells b cs ps = some cs'
  | [], _, _, hb => hb
  | (off, n, x) :: ps, cs, cs', hb => by
    simp only [buildCells] at hb ⊢
    by_cases hk : (evX a x).sh = .no
    · rw [hk] at hb; simp at hb
    · rw [le_known h hk]
      split at hb
      · rename_i hs
        split at hb
        · rename_i hc; rw [if_pos hc]; exact le_build h hb
        · simp at hb
      · rename_i hs
        split at hb
        · rename_i hc; rw [if_pos hc]; exact le_build h hb
        · simp at hb
      · simp at hb
theorem le_parts (h : a.le b) : ∀ {ps : List XO} {cs : List Cell}, partCells a ps = some cs → partCells b ps = some cs ∧ ∀ x ∈ ps, evX b x = evX a x
  | [], _, hb => ⟨hb, by simp⟩
  | x :: ps, cs, hb => by
    simp only [partCells] at hb ⊢
    by_cases hk : (evX a x).sh = .no
    · rw [hk] at hb; simp at hb
    · have hx := le_known h hk
      rw [hx]
      split at hb
      · rename_i cs1 hs h1
        obtain ⟨h2, h3⟩ := le_parts h h1
        rw [h2, hs]
        exact ⟨hb, fun y hy => by rcases List.mem_cons.1 hy with rfl | hy; exact hx; exact h3 y hy⟩
      · rename_i cs1 hs h1
        obtain ⟨h2, h3⟩ := le_parts h h1
        rw [h2, hs]
        exact ⟨hb, fun y hy => by rcases List.mem_cons.1 hy with rfl | hy; exact hx; exact h3 y hy⟩
      · simp at hb
theorem elem_scal (st : St) (p : Pl) : ∀ {cs : List Cell} {ds : List D}, scalCells cs = some ds → elemDs st p cs = some (ds, st)
  | [], _, h => by simp only [scalCells, Option.some.injEq] at h; subst h; rfl
  | c :: cs, ds, h => by
    cases c <;> simp only [scalCells] at h <;> try (simp at h; done)
    all_goals
      split at h
      · rename_i l hl
        simp only [Option.some.injEq] at h; subst h
        simp only [elemDs, elem_scal st p hl, Option.map_some]
      · simp at h
theorem lend_mono (h : a.le b) : ∀ {cs : List Cell}, lendOk a cs = true → argCells b [] [] false cs = argCells a [] [] false cs ∧ lentsOf b 0 false 0 cs = []
  | [], _ => ⟨rfl, rfl⟩
  | c :: cs, hl => by
    simp only [lendOk, Bool.and_eq_true] at hl
    obtain ⟨h1, _⟩ := lend_mono h hl.2
    have hr : roCell b [] [] c = roCell a [] [] c := by
      cases c with
      | al p =>
        obtain ⟨x, hx⟩ := Option.isSome_iff_exists.1 hl.1
        simp only [roCell, hx, le_rows h hx]
      | own sz rows => cases rows <;> rfl
      | undef => rfl
      | int _ _ => rfl
      | bool _ => rfl
      | str _ => rfl
      | ro _ _ => rfl
      | rptr _ => rfl
      | _ => simp at hl
    refine ⟨by simp only [argCells, h1, hr], ?_⟩
    have : ∀ (i j : Nat) (cs : List Cell), lentsOf b i false j cs = [] := by
      intro i j cs
      induction cs generalizing j with
      | nil => rfl
      | cons c cs ih => simp only [lentsOf, ih]; rfl
    exact this _ _ _
theorem args_mono (h : a.le b) : ∀ {args : List (Bool × XO)} , argsOk a (evArgs a args) = true → evArgs b args = evArgs a args ∧ callArgs b [] [] (evArgs a args) = callArgs a [] [] (evArgs a args) ∧
    (∀ j, allLents b j (evArgs a args) = []) ∧ (evArgs a args).all (fun x => x.2.known) = true
  | [], _ => ⟨rfl, rfl, fun _ => rfl, rfl⟩
  | (own, x) :: args, hk => by
    simp only [evArgs, List.map_cons, argsOk, Bool.and_eq_true, Bool.not_eq_true'] at hk
    obtain ⟨⟨⟨rfl, hk2⟩, hk3⟩, hk4⟩ := hk
    obtain ⟨h1, h2, h3, h4⟩ := args_mono h (args := args) hk4
    have hx : evX b x = evX a x := le_known h (by intro e; simp [SV.known, e] at hk2)
    have hl : ∀ (i j : Nat) (cs : List Cell), lentsOf b i false j cs = [] := by
      intro i j cs
      induction cs generalizing j with
      | nil => rfl
      | cons c cs ih => simp only [lentsOf, ih]; rfl
    refine ⟨?_, ?_, fun j => ?_, ?_⟩
    · simp only [evArgs, List.map_cons, hx] at h1 ⊢; rw [h1]
    · simp only [evArgs, List.map_cons, callArgs] at h2 ⊢; rw [h2, (lend_mono h hk3).1]
    · simp only [evArgs, List.map_cons, allLents, hl] at h3 ⊢; rw [h3]; rfl
    · simp only [evArgs, List.map_cons, List.all_cons, Bool.and_eq_true] at h4 ⊢; exact ⟨hk2, h4⟩
theorem le_step (h : a.le b) {op : XOp} {y : SV} {d : Nat} (hk : y.sh ≠ .no) (hv : vop E a op = some y) (hd : (look b.sl d).sh = .no) : step E b (some d) op = some (putSlot b d y) := by
  have quiet : vq a op = some y → step E b (some d) op = putQ b d (qop b op) → vq b op = qop b op → step E b (some d) op = some (putSlot b d y) := by
    intro h1 h2 h3
    have := le_vq h hk h1
    rw [h3] at this
    rw [h2, this]; rfl
  cases op <;> simp only [vop] at hv <;> first
    | (exact quiet hv rfl rfl)
    | (simp [vq] at hv; done)
    | skip
  · rename_i x tk
    split at hv
    · rename_i hc
      simp only [Option.some.injEq] at hv; subst hv
      simp only [step, asgSt, le_known h hk]
      rw [takes_none _ _ _ _ _ hc]; rfl
    · simp at hv
  · rename_i zero parts
    split at hv
    · rename_i cs hc
      simp only [Option.some.injEq] at hv; subst hv
      simp only [step, le_build h hc, putA]
    · simp at hv
  · rename_i sz parts
    split at hv
    · rename_i cs hc
      split at hv
      · rename_i ds hds
        split at hv
        · rename_i hcond
          simp only [Option.some.injEq] at hv; subst hv
          obtain ⟨h1, h2⟩ := le_parts h hc
          simp only [step, bsliceSt, h1]
          have hall : (parts.all fun x => (evX b x).cs.length == sz) = true := by
            rw [List.all_eq_true] at hcond ⊢
            intro x hx
            rw [h2 x hx]; exact hcond.2 x hx
          rw [if_pos ⟨hcond.1, hall⟩, elem_scal _ _ hds]
        · simp at hv
      · simp at hv
    · simp at hv
  · rename_i sz bytes zero l
    split at hv
    · rename_i k n hc
      split at hv
      · rename_i hcond
        simp only [Option.some.injEq] at hv; subst hv
        simp only [step, mksSt, le_c1 h hc (by simp)]
        rw [if_pos hcond]
      · simp at hv
    · simp at hv
  · rename_i f args refs
    split at hv
    · split at hv
      · rename_i hargs
        split at hv
        · rename_i res _ _ hE
          split at hv
          · rename_i hfr
            simp only [Option.some.injEq] at hv; subst hv
            obtain ⟨h1, h2, h3, h4⟩ := args_mono h hargs
            simp only [step, callSt, h1, h3, lentsOk, rootsNodup, natsNodup, List.all_nil, Bool.and_self, cellsNodup, h4, if_true, callRefs, h2, hE, hfr, List.length_nil, refsThere, afterSt, putDst]
          · simp at hv
        · simp at hv
      · simp at hv
    · simp at hv
end
structure XD where
  i : XI
  cl : List Nat
  drop : List Nat
  na : List Nat := []
  ef : Option Nat := none
def Cell.flat : Cell → Bool
  | .int _ _ => true
  | .bool _ => true
  | .str _ => true
  | .ro _ _ => true
  | .rov _ _ _ => true
  | _ => false
inductive Out where
  | val (y : SV)
  | skip
  | al (cs : List Cell)
  | cal (y : SV) (k : Nat) (cs : List Cell)
def Out.sv (d : Nat) : Out → SV
  | .val y => y
  | .skip => ⟨.tup [], []⟩
  | .al _ => ⟨.one, [.ptr d 0]⟩
  | .cal y _ _ => y
def outPut (st : St) (d : Nat) (o : Out) : St := match o with
  | .al cs => ⟨putS st.sl d (o.sv d), putR st.rf d cs, st.gh⟩
  | .cal y k cs => ⟨putS st.sl d y, putR st.rf k cs, st.gh⟩
  | o => ⟨putS st.sl d (o.sv d), st.rf, st.gh⟩
def gWant (st : St) : Option (Nat × Bool) → Option Bool
  | none => some true
  | some (t, w) => match (look st.sl t).sh, (look st.sl t).cs with
    | .one, [.bool b] => some (b == w)
    | .tup [], [] => some false
    | _, _ => none
def noHit (d : Nat) (st : St) (cs : List Cell) : Prop := mapS st.sl (SV.filt (hitK d)) = st.sl ∧ mapR st.rf (fun l => l.map (Cell.filt (hitK d))) = st.rf ∧ mapS st.gh (SV.filt (hitK d)) = st.gh ∧ cs.map (Cell.filt (hitK d)) = cs
def naV : List Nat → SV → Prop
  | [], _ => True
  | k :: l, y => y.filt (hitK k) = y ∧ naV l y
def naC : List Nat → List Cell → Prop
  | [], _ => True
  | k :: l, cs => cs.map (Cell.filt (hitK k)) = cs ∧ naC l cs
theorem naV_mem : ∀ {l : List Nat} {y : SV} {k : Nat}, naV l y → l.contains k = true → y.filt (hitK k) = y
  | a :: l, y, k, h, hk => by
    simp only [List.contains_cons, Bool.or_eq_true, beq_iff_eq] at hk
    rcases hk with rfl | hk
    · exact h.1
    · exact naV_mem h.2 hk
theorem naC_mem : ∀ {l : List Nat} {y : List Cell} {k : Nat}, naC l y → l.contains k = true → y.map (Cell.filt (hitK k)) = y
  | a :: l, y, k, h, hk => by
    simp only [List.contains_cons, Bool.or_eq_true, beq_iff_eq] at hk
    rcases hk with rfl | hk
    · exact h.1
    · exact naC_mem h.2 hk
def okOut (P : Program) (x : XD) (d : Nat) (st : St) : Out → Prop
  | .val y => (y.sh ≠ .no ∧ naV x.na y ∧ (∃ E, EnvOk P E ∧ vop E (dropOnly x.drop st) x.i.op = some y) ∧ gWant (dropOnly x.drop st) x.i.guard = some true) ∧ x.ef = none
  | .skip => gWant (dropOnly x.drop st) x.i.guard = some false ∧ x.ef = none
  | .al cs => (x.i.op = .alloc cs ∧ x.i.guard = none ∧ lookR st.rf d = none ∧ noHit d st cs ∧ naC x.na cs) ∧ x.ef = none
  | .cal y k cs => y.sh ≠ .no ∧ naV x.na y ∧ cs.all Cell.flat = true ∧ x.ef = some k
def Res (P : Program) (xs : List XD) (os : List Out) (C : Nat → St) : Prop :=
  ∀ i, i < xs.length → ∃ x o d, xs[i]? = some x ∧ os[i]? = some o ∧ x.i.dst = some d ∧ look (C i).sl d = .undef ∧ okOut P x d (C i) o ∧ C (i + 1) = outPut (C i) d o
def SV.absent (x : SV) : Bool := match x.sh, x.cs with
  | .no, [] => true
  | _, _ => false
def dvPut (na : List Nat) (d : Nat) (K : St → Prop) (st : St) (y : SV) : Prop := y.known = true ∧ naV na y ∧ K ⟨putS st.sl d y, st.rf, st.gh⟩
def dvK (na : List Nat) (d : Nat) (K : St → Prop) (st : St) (res : SV) (args' : List SV) (rf' : Refs) : Prop := res.fresh = true ∧ dvPut na d K st res
def dvCall (P : Program) (na : List Nat) (d : Nat) (K : St → Prop) (st s : St) (f : FuncId) (args : List (Bool × SV)) : List Nat → Prop
  | [] => argsOk s args = true ∧ CallW P f (callArgs s [] [] args) [] (dvK na d K st)
  | _ => False
def dvGo (P : Program) (x : XD) (d : Nat) (K : St → Prop) (st : St) : Prop := match x.i.op with
  | .alloc cs => x.i.guard = none ∧ lookR st.rf d = none ∧ noHit d st cs ∧ naC x.na cs ∧ K ⟨putS st.sl d ⟨.one, [.ptr d 0]⟩, putR st.rf d cs, st.gh⟩
  | .call f args refs => dvCall P x.na d K st (dropOnly x.drop st) f (evArgs (dropOnly x.drop st) args) refs
  | op => Opt (vop noE (dropOnly x.drop st) op) (dvPut x.na d K st)
def hitE (k : Nat) (c : Cell) : Bool := hitL [] [k] c
def noHitE (k : Nat) (st : St) : Prop := mapS st.sl (SV.filt (hitE k)) = st.sl ∧ mapR st.rf (fun l => l.map (Cell.filt (hitE k))) = st.rf ∧ mapS st.gh (SV.filt (hitE k)) = st.gh
def lendOkE (k : Nat) (st : St) : List Cell → Bool
  | [] => true
  | c :: cs => (match c with
    | .undef => true
    | .int _ _ => true
    | .bool _ => true
    | .str _ => true
    | .ro _ _ => true
    | .rptr _ => true
    | .own _ [] => true
    | .al p => !badRoot [] [k] p.r && (rowsAt st p).isSome
    | .ptr k' _ => k' == k
    | _ => false) && lendOkE k st cs
def argsOkE (k : Nat) (st : St) : List (Bool × SV) → Bool
  | [] => true
  | (own, x) :: l => !own && x.known && lendOkE k st x.cs && argsOkE k st l
def dvEk2 (cs0 : List Cell) (na : List Nat) (d k : Nat) (K : St → Prop) (st : St) (res : SV) : Option (List Cell) → Prop
  | some cs => res.known = true ∧ naV na res ∧ (backCs cs0 cs).all Cell.flat = true ∧ K ⟨putS st.sl d res, putR st.rf k (backCs cs0 cs), st.gh⟩
  | none => False
def dvEk (cs0 : List Cell) (na : List Nat) (d k : Nat) (K : St → Prop) (st : St) (res : SV) (args' : List SV) (rf' : Refs) : Prop := res.fresh = true ∧ dvEk2 cs0 na d k K st res (lookR rf' KEY)
def dvEr (P : Program) (na : List Nat) (d k : Nat) (K : St → Prop) (st : St) (f : FuncId) (cargs : List SV) : Option (List Cell) → Prop
  | some cs => CallR P f cargs [(KEY, cs.map refCell)] (dvEk cs na d k K st)
  | none => False
def dvEff (P : Program) (na : List Nat) (d k : Nat) (K : St → Prop) (st a : St) (f : FuncId) (args : List (Bool × SV)) : Prop :=
  argsOkE k a args = true ∧ noHitE k st ∧ dvEr P na d k K st f (callArgs a [] [k] args) (lookR a.rf k)
def dvEf (P : Program) (x : XD) (d k : Nat) (K : St → Prop) (st : St) : Option (Nat × Bool) → XOp → Prop
  | none, .call f args [k'] => k' = k ∧ dvEff P x.na d k K st (dropOnly x.drop st) f (evArgs (dropOnly x.drop st) args)
  | _, _ => False
def dvSkip (d : Nat) (K : St → Prop) (st : St) : Prop := K ⟨putS st.sl d ⟨.tup [], []⟩, st.rf, st.gh⟩
def dvG (want : Bool) (yes no : Prop) : Bool → Prop
  | true => match want with
    | true => yes
    | false => no
  | false => match want with
    | true => no
    | false => yes
def DV (P : Program) : List XD → (St → Prop) → St → Prop
  | [], K, st => K st
  | x :: xs, K, st => match x.i.dst with
    | some d => (look st.sl d).absent = true ∧ (match x.ef with
      | some k => dvEf P x d k (DV P xs K) st x.i.guard x.i.op
      | none => match x.i.guard with
        | none => dvGo P x d (DV P xs K) st
        | some (t, want) => match (look (dropOnly x.drop st).sl t).sh, (look (dropOnly x.drop st).sl t).cs with
          | .one, [.bool b] => Br b (dvG want (dvGo P x d (DV P xs K) st) (dvSkip d (DV P xs K) st))
          | .tup [], [] => dvSkip d (DV P xs K) st
          | _, _ => False)
    | none => False
section
variable {P : Program}
theorem known_iff {x : SV} : x.known = true ↔ x.sh ≠ .no := by
  obtain ⟨sh, cs⟩ := x
  cases sh <;> simp [SV.known]
theorem DV_res : ∀ (xs : List XD) (K : St → Prop) (st : St), DV P xs K st → ∃ m os C, m ≤ xs.length ∧ os.length = m ∧ C 0 = st ∧ Res P (xs.take m) os C ∧ DV P (xs.drop m) K (C m) ∧ (∀ (i : Nat) (o : Out), os[i]? = some o → ∀ y k cs, o ≠ Out.cal y k cs) ∧ (m < xs.length → ∃ x k, xs[m]? = some x ∧ x.ef = some k)
  | [], K, st, h => ⟨0, [], fun _ => st, Nat.le_refl _, rfl, rfl, fun i hi => by simp at hi, h, fun i o hi => by simp at hi, fun hi => by simp at hi⟩
  | x :: xs, K, st, h => by
    cases hef : x.ef with
    | some k => exact ⟨0, [], fun _ => st, Nat.zero_le _, rfl, rfl, fun i hi => by simp at hi, h, fun i o hi => by simp at hi, fun _ => ⟨x, k, rfl, hef⟩⟩
    | none =>
    simp only [DV, hef] at h
    split at h
    · rename_i d hd
      obtain ⟨hfresh, h⟩ := h
      have hfr : look st.sl d = .undef := by
        generalize look st.sl d = v at hfresh
        obtain ⟨sh, cs⟩ := v
        cases sh <;> cases cs <;> simp [SV.absent] at hfresh <;> rfl
      have cons : ∀ (o : Out), okOut P x d st o → (∀ y k cs, o ≠ Out.cal y k cs) → DV P xs K (outPut st d o) → ∃ m os C, m ≤ (x :: xs).length ∧ os.length = m ∧ C 0 = st ∧ Res P ((x :: xs).take m) os C ∧ DV P ((x :: xs).drop m) K (C m) ∧ (∀ (i : Nat) (o : Out), os[i]? = some o → ∀ y k cs, o ≠ Out.cal y k cs) ∧ (m < (x :: xs).length → ∃ y k, (x :: xs)[m]? = some y ∧ y.ef = some k) := by
        intro o ho hnc hk
        obtain ⟨m, os, C, h0, h1, h2, h3, h4, h5, h6⟩ := DV_res xs K _ hk
        refine ⟨m + 1, o :: os, fun i => match i with | 0 => st | i + 1 => C i, by simpa using h0, by simp [h1], rfl, fun i hi => ?_, h4, fun i o' hi => ?_, fun hm => by simpa using h6 (by simpa using hm)⟩
        · cases i with
          | zero => exact ⟨x, o, d, rfl, rfl, hd, hfr, ho, h2⟩
          | succ i =>
            obtain ⟨x', o', d', e1, e2, e3, e4, e5, e6⟩ := h3 i (by simpa using hi)
            exact ⟨x', o', d', by simpa using e1, by simpa using e2, e3, e4, e5, e6⟩
        · cases i with
          | zero => simp at hi; subst hi; exact hnc
          | succ i => exact h5 i o' (by simpa using hi)
      have go : gWant (dropOnly x.drop st) x.i.guard = some true → dvGo P x d (DV P xs K) st → ∃ m os C, m ≤ (x :: xs).length ∧ os.length = m ∧ C 0 = st ∧ Res P ((x :: xs).take m) os C ∧ DV P ((x :: xs).drop m) K (C m) ∧ (∀ (i : Nat) (o : Out), os[i]? = some o → ∀ y k cs, o ≠ Out.cal y k cs) ∧ (m < (x :: xs).length → ∃ y k, (x :: xs)[m]? = some y ∧ y.ef = some k) := by
        intro hg hgo
        unfold dvGo at hgo
        split at hgo
        · rename_i cs hop
          exact cons (.al cs) ⟨⟨hop, hgo.1, hgo.2.1, hgo.2.2.1, hgo.2.2.2.1⟩, hef⟩ (by simp) hgo.2.2.2.2
        · rename_i f args refs hop
          unfold dvCall at hgo
          split at hgo
          · obtain ⟨h1, res, a2, r2, h2, h3, h4, h5⟩ := hgo
            refine cons (.val res) ⟨⟨known_iff.1 h5.1, h5.2.1, ⟨_, oneE_ok h2 h3, ?_⟩, hg⟩, hef⟩ (by simp) h5.2.2
            rw [hop]
            simp only [vop]
            rw [if_pos h1, oneE_eq]
            simp only
            rw [if_pos h4]
          · exact hgo.elim
        · rename_i op _ _
          obtain ⟨y, hy, hk⟩ := hgo
          exact cons (.val y) ⟨⟨known_iff.1 hk.1, hk.2.1, ⟨noE, noE_ok, hy⟩, hg⟩, hef⟩ (by simp) hk.2.2
      have sk : gWant (dropOnly x.drop st) x.i.guard = some false → dvSkip d (DV P xs K) st → ∃ m os C, m ≤ (x :: xs).length ∧ os.length = m ∧ C 0 = st ∧ Res P ((x :: xs).take m) os C ∧ DV P ((x :: xs).drop m) K (C m) ∧ (∀ (i : Nat) (o : Out), os[i]? = some o → ∀ y k cs, o ≠ Out.cal y k cs) ∧ (m < (x :: xs).length → ∃ y k, (x :: xs)[m]? = some y ∧ y.ef = some k) := by
        intro hg hk
        exact cons .skip ⟨hg, hef⟩ (by simp) hk
      split at h
      · rename_i hg; exact go (by rw [hg]; rfl) h
      · rename_i t want hg
        split at h
        · rename_i b hs hc
          have hw : gWant (dropOnly x.drop st) x.i.guard = some (b == want) := by rw [hg]; simp only [gWant, hs, hc]
          cases b <;> cases want <;> simp only [Br, dvG] at h
          · exact go hw h
          · exact sk hw h
          · exact sk hw h
          · exact go hw h
        · rename_i hs hc
          exact sk (by rw [hg]; simp only [gWant, hs, hc]) h
        · exact h.elim
    · exact h.elim
structure Rep (xs : List XD) (os : List Out) (st0 : St) (kc : Refs) (X : Nat → Bool) (s : St) : Prop where
  gh : s.gh = st0.gh
  sl : ∀ i x o d, X i = true → xs[i]? = some x → os[i]? = some o → x.i.dst = some d → look s.sl d = o.sv d
  sl0 : ∀ t, (∀ i x, X i = true → xs[i]? = some x → x.i.dst ≠ some t) → look s.sl t = look st0.sl t
  rf : ∀ i x cs d, X i = true → xs[i]? = some x → os[i]? = some (.al cs) → x.i.dst = some d → lookR s.rf d = some cs
  rfk : ∀ i x y k cs, X i = true → xs[i]? = some x → os[i]? = some (.cal y k cs) → lookR s.rf k = lookR kc k
  rf0 : ∀ k, (∀ i x cs, X i = true → xs[i]? = some x → os[i]? = some (.al cs) → x.i.dst ≠ some k) → (∀ i x y cs, X i = true → xs[i]? = some x → os[i]? = some (.cal y k cs) → False) → lookR s.rf k = lookR st0.rf k
def EfOk (xs : List XD) : Prop := ∀ (i j : Nat) (x y : XD) (k : Nat) (cs : List Cell), xs[i]? = some x → x.ef = some k → xs[j]? = some y → y.i.op = .alloc cs → y.i.dst ≠ some k
theorem Out.sv_known {o : Out} {d : Nat} {x : XD} {st : St} (h : okOut P x d st o) : (o.sv d).sh ≠ .no := by
  cases o with
  | val y => exact h.1.1
  | skip => simp [Out.sv]
  | al cs => simp [Out.sv]
  | cal y k cs => exact h.1
theorem look_outPut (st : St) (d : Nat) (o : Out) (t : Nat) : look (outPut st d o).sl t = if d = t then o.sv d else look st.sl t := by
  cases o <;> simp only [outPut, look_putS] <;> rfl
theorem gh_outPut (st : St) (d : Nat) (o : Out) : (outPut st d o).gh = st.gh := by cases o <;> rfl
theorem rf_outPut (st : St) (d : Nat) (o : Out) (k : Nat) : lookR (outPut st d o).rf k = match o with
    | .al cs => if d = k then some cs else lookR st.rf k
    | .cal _ k' cs => if k' = k then some cs else lookR st.rf k
    | _ => lookR st.rf k := by cases o <;> simp only [outPut, lookR_putR]
theorem Res.rep {xs : List XD} {os : List Out} {C : Nat → St} (h : Res P xs os C) (he : EfOk xs) : ∀ i, i ≤ xs.length → Rep xs os (C 0) (C i).rf (fun j => decide (j < i)) (C i) := by
  intro i
  induction i with
  | zero => exact fun _ => ⟨rfl, fun i x o d hi => by simp at hi, fun _ _ => rfl, fun i x cs d hi => by simp at hi, fun i x y k cs hi => by simp at hi, fun _ _ _ => rfl⟩
  | succ i ih =>
    intro hi
    have hr := ih (by omega)
    obtain ⟨x, o, d, h1, h2, h3, h4, h5, h6⟩ := h i (by omega)
    have hdist : ∀ j y d', j < i → xs[j]? = some y → y.i.dst = some d' → d' ≠ d := by
      intro j y d' hj hy hd' e
      subst e
      obtain ⟨x', o', d'', e1, e2, e3, _, e5, _⟩ := h j (by omega)
      rw [hy] at e1; injection e1 with e1; subst e1
      rw [hd'] at e3; injection e3 with e3; subst e3
      have := hr.sl j y o' d' (by simpa using hj) hy e2 hd'
      rw [this] at h4
      exact Out.sv_known e5 (by rw [h4])
    refine ⟨by rw [h6, gh_outPut, hr.gh], fun j y o' d' hj hy ho hd' => ?_, fun t ht => ?_, fun j y cs d' hj hy ho hd' => ?_, fun _ _ _ _ _ _ _ _ => rfl, fun k hk hk2 => ?_⟩
    · rw [h6, look_outPut]
      by_cases e : j = i
      · subst e
        rw [hy] at h1; injection h1 with h1; subst h1
        rw [ho] at h2; injection h2 with h2; subst h2
        rw [hd'] at h3; injection h3 with h3; subst h3
        rw [if_pos rfl]
      · have hlt : j < i := by simp only [decide_eq_true_eq] at hj; omega
        rw [if_neg (Ne.symm (hdist j y d' hlt hy hd'))]
        exact hr.sl j y o' d' (by simpa using hlt) hy ho hd'
    · rw [h6, look_outPut, if_neg (fun e => by subst e; exact ht i x (by simp) h1 h3)]
      exact hr.sl0 t fun j y hj hy => ht j y (by simp only [decide_eq_true_eq] at hj ⊢; omega) hy
    · rw [h6, rf_outPut]
      by_cases e : j = i
      · subst e
        rw [hy] at h1; injection h1 with h1; subst h1
        rw [ho] at h2; injection h2 with h2; subst h2
        rw [hd'] at h3; injection h3 with h3; subst h3
        simp only [if_true]
      · have hlt : j < i := by simp only [decide_eq_true_eq] at hj; omega
        have := hr.rf j y cs d' (by simpa using hlt) hy ho hd'
        obtain ⟨y', o', d'', e1, e2, e3, _, e5, _⟩ := h j (by omega)
        rw [hy] at e1; injection e1 with e1; subst e1
        rw [ho] at e2; injection e2 with e2; subst e2
        split
        · rw [if_neg (Ne.symm (hdist j y d' hlt hy hd'))]; exact this
        · rename_i _ k' cs'
          rw [if_neg (fun e => by subst e; exact he i j x y k' cs h1 h5.2.2.2 hy e5.1.1 hd')]; exact this
        · exact this
    · have h0 := hr.rf0 k (fun j y cs hj hy ho => hk j y cs (by simp only [decide_eq_true_eq] at hj ⊢; omega) hy ho) (fun j y z cs hj hy ho => hk2 j y z cs (by simp only [decide_eq_true_eq] at hj ⊢; omega) hy ho)
      rw [h6, rf_outPut]
      split
      · rename_i cs
        rw [if_neg (fun e => by subst e; exact hk i x cs (by simp) h1 h2 h3)]; exact h0
      · rename_i y k' cs
        rw [if_neg (fun e => by subst e; exact hk2 i x y cs (by simp) h1 h2)]; exact h0
      · exact h0
theorem Res.calk {xs : List XD} {os : List Out} {C : Nat → St} (h : Res P xs os C) (he : EfOk xs) {k : Nat} : ∀ i, i ≤ xs.length → ∀ j y cs, j < i → os[j]? = some (.cal y k cs) → ∃ cs', lookR (C i).rf k = some cs' ∧ cs'.all Cell.flat = true := by
  intro i
  induction i with
  | zero => intro _ j y cs hj; omega
  | succ i ih =>
    intro hi j y cs hj ho
    obtain ⟨x, o, d, h1, h2, h3, h4, h5, h6⟩ := h i (by omega)
    by_cases e : j = i
    · subst e
      rw [ho] at h2; injection h2 with h2; subst h2
      refine ⟨cs, ?_, h5.2.2.1⟩
      rw [h6]; simp [outPut, lookR_putR]
    · obtain ⟨cs', e1, e2⟩ := ih (by omega) j y cs (by omega) ho
      obtain ⟨x', o', d', f1, f2, f3, _, f5, _⟩ := h j (by omega)
      rw [ho] at f2; injection f2 with f2; subst f2
      rw [h6, rf_outPut]
      split
      · rename_i cs2
        rw [if_neg (fun e => by subst e; exact he j i x' x d cs2 f1 f5.2.2.2 h1 h5.1.1 h3)]
        exact ⟨cs', e1, e2⟩
      · rename_i y2 k2 cs2
        by_cases ek : k2 = k
        · rw [if_pos ek]; exact ⟨cs2, rfl, h5.2.2.1⟩
        · rw [if_neg ek]; exact ⟨cs', e1, e2⟩
      · exact ⟨cs', e1, e2⟩
theorem Res.refeq {xs : List XD} {os : List Out} {C : Nat → St} (h : Res P xs os C) {k : Nat} {i : Nat} : ∀ m, i ≤ m → m ≤ xs.length → (∀ j y cs, i ≤ j → j < m → os[j]? = some (.cal y k cs) → False) → (∀ j x cs, i ≤ j → j < m → xs[j]? = some x → os[j]? = some (.al cs) → x.i.dst ≠ some k) → lookR (C m).rf k = lookR (C i).rf k := by
  intro m
  induction m with
  | zero => intro hi _ _ _; have : i = 0 := by omega
            subst this; rfl
  | succ m ih =>
    intro hi hm hc ha
    by_cases e : i = m + 1
    · subst e; rfl
    · rw [← ih (by omega) (by omega) (fun j y cs h1 h2 => hc j y cs h1 (by omega)) (fun j x cs h1 h2 => ha j x cs h1 (by omega))]
      obtain ⟨x, o, d, h1, h2, h3, h4, h5, h6⟩ := h m (by omega)
      rw [h6, rf_outPut]
      split
      · rename_i cs
        rw [if_neg (fun e => by subst e; exact ha m x cs (by omega) (by omega) h1 h2 h3)]
      · rename_i y k' cs
        rw [if_neg (fun e => by subst e; exact hc m y cs (by omega) (by omega) h2)]
      · rfl
end
def dropOk (xs : List XD) : Bool := (List.range xs.length).all fun i => match xs[i]? with
  | some x => (List.range i).all fun j => x.cl.contains j || (match xs[j]? with
    | some y => (match y.i.dst with
      | some d => x.drop.contains d
      | none => false)
    | none => false)
  | none => true
theorem dropOk_spec {xs : List XD} (h : dropOk xs = true) {i j : Nat} {x y : XD} {d : Nat} (hx : xs[i]? = some x) (hj : j < i) (hy : xs[j]? = some y) (hd : y.i.dst = some d) : x.cl.contains j = true ∨ x.drop.contains d = true := by
  unfold dropOk at h
  rw [List.all_eq_true] at h
  have h1 := h i (by simpa using (List.getElem?_eq_some_iff.1 hx).1)
  simp only [hx, List.all_eq_true] at h1
  have h2 := h1 j (by simpa using hj)
  simp only [hy, hd, Bool.or_eq_true] at h2
  exact h2
theorem look_dropOnly (l : List Nat) (st : St) (t : Nat) : look (dropOnly l st).sl t = if l.contains t then .undef else look st.sl t := by
  unfold dropOnly
  split
  · simp
  · simp only [look_keepS]
    cases hc : List.contains _ t <;> simp [hc]
theorem lookR_dropOnly (l : List Nat) (st : St) (t : Nat) : lookR (dropOnly l st).rf t = if l.contains t then none else lookR st.rf t := by
  unfold dropOnly
  split
  · simp
  · simp only [lookR_keepS]
    cases hc : List.contains _ t <;> simp [hc]
theorem gh_dropOnly (l : List Nat) (st : St) : (dropOnly l st).gh = st.gh := by unfold dropOnly; split <;> rfl
section
variable {P : Program} {xs : List XD} {os : List Out} {C : Nat → St} {X : Nat → Bool} {s : St}
theorem Res.inj (h : Res P xs os C) (he : EfOk xs) {i j : Nat} {x y : XD} {d : Nat} (hx : xs[i]? = some x) (hy : xs[j]? = some y) (hdx : x.i.dst = some d) (hdy : y.i.dst = some d) : i = j := by
  have key : ∀ {i j : Nat} {x y : XD}, i < j → xs[i]? = some x → xs[j]? = some y → x.i.dst = some d → y.i.dst = some d → False := by
    intro i j x y hij hx hy hdx hdy
    have hj := (List.getElem?_eq_some_iff.1 hy).1
    obtain ⟨y', o', d', e1, e2, e3, e4, _⟩ := h j hj
    rw [hy] at e1; injection e1 with e1; subst e1
    rw [hdy] at e3; injection e3 with e3; subst e3
    obtain ⟨x', o2, d2, f1, f2, f3, _, f5, _⟩ := h i (by omega)
    rw [hx] at f1; injection f1 with f1; subst f1
    rw [hdx] at f3; injection f3 with f3; subst f3
    have := (h.rep he j (by omega)).sl i x o2 d (by simpa using hij) hx f2 hdx
    rw [this] at e4
    exact Out.sv_known f5 (by rw [e4])
  rcases Nat.lt_trichotomy i j with hij | hij | hij
  · exact (key hij hx hy hdx hdy).elim
  · exact hij
  · exact (key hij hy hx hdy hdx).elim
theorem Res.fresh0 (h : Res P xs os C) (he : EfOk xs) {i : Nat} {x : XD} {d : Nat} (hx : xs[i]? = some x) (hd : x.i.dst = some d) : look (C 0).sl d = .undef := by
  have hi := (List.getElem?_eq_some_iff.1 hx).1
  obtain ⟨x', o', d', e1, e2, e3, e4, _⟩ := h i hi
  rw [hx] at e1; injection e1 with e1; subst e1
  rw [hd] at e3; injection e3 with e3; subst e3
  rw [← (h.rep he i (by omega)).sl0 d (fun j y hj hy hdy => by
    have := h.inj he hy hx hdy hd
    simp only [decide_eq_true_eq] at hj; omega)]
  exact e4
theorem Res.fresh0R (h : Res P xs os C) (he : EfOk xs) {i : Nat} {x : XD} {d : Nat} {cs : List Cell} (hx : xs[i]? = some x) (ho : os[i]? = some (.al cs)) (hd : x.i.dst = some d) : lookR (C 0).rf d = none := by
  have hi := (List.getElem?_eq_some_iff.1 hx).1
  obtain ⟨x', o', d', e1, e2, e3, e4, e5, _⟩ := h i hi
  rw [hx] at e1; injection e1 with e1; subst e1
  rw [hd] at e3; injection e3 with e3; subst e3
  rw [ho] at e2; injection e2 with e2; subst e2
  rw [← (h.rep he i (by omega)).rf0 d (fun j y cs hj hy _ hdy => by
    have := h.inj he hy hx hdy hd
    simp only [decide_eq_true_eq] at hj; omega) (fun j y z cs2 hj hy ho2 => by
    have hjl := (List.getElem?_eq_some_iff.1 hy).1
    obtain ⟨y', o2, d2, f1, f2, f3, _, f5, _⟩ := h j hjl
    rw [hy] at f1; injection f1 with f1; subst f1
    rw [ho2] at f2; injection f2 with f2; subst f2
    exact he j i y x d cs hy f5.2.2.2 hx e5.1.1 hd)]
  exact e5.1.2.2.1
theorem Rep.fresh {kc : Refs} (h : Res P xs os C) (he : EfOk xs) (hs : Rep xs os (C 0) kc X s) {i : Nat} {x : XD} {d : Nat} (hx : xs[i]? = some x) (hd : x.i.dst = some d) (hi : X i = false) : look s.sl d = .undef := by
  rw [hs.sl0 d (fun j y hj hy hdy => by
    have := h.inj he hy hx hdy hd
    subst this; rw [hi] at hj; simp at hj)]
  exact h.fresh0 he hx hd
theorem Rep.le (h : Res P xs os C) (he : EfOk xs) (hs : Rep xs os (C 0) (C xs.length).rf X s) (hcal : ∀ j y k cs, os[j]? = some (Out.cal y k cs) → X j = true) {i : Nat} {x : XD} (hi : i ≤ xs.length)
    (hdx : ∀ j y d, j < i → xs[j]? = some y → y.i.dst = some d → x.cl.contains j = true ∨ x.drop.contains d = true) (hcl : ∀ j, x.cl.contains j = true → X j = true)
    (hlater : ∀ j z k cs, i ≤ j → j < xs.length → os[j]? = some (Out.cal z k cs) → x.drop.contains k = true) : (dropOnly x.drop (C i)).le s := by
  have hr := h.rep he i hi
  refine ⟨fun t => ?_, fun k cs hk => ?_, by rw [gh_dropOnly, hr.gh, hs.gh]⟩
  · rw [look_dropOnly]
    split
    · exact .inr rfl
    · rename_i hnd
      by_cases hex : ∃ j y, j < i ∧ xs[j]? = some y ∧ y.i.dst = some t
      · obtain ⟨j, y, hj, hy, hd⟩ := hex
        obtain ⟨y', o', d', e1, e2, e3, _⟩ := h j (by omega)
        rw [hy] at e1; injection e1 with e1; subst e1
        rw [hd] at e3; injection e3 with e3; subst e3
        have hX := hcl j ((hdx j y t hj hy hd).resolve_right hnd)
        left
        rw [hr.sl j y o' t (by simpa using hj) hy e2 hd, hs.sl j y o' t hX hy e2 hd]
      · have h0 : look (C i).sl t = look (C 0).sl t := hr.sl0 t fun j y hj hy hd => hex ⟨j, y, by simpa using hj, hy, hd⟩
        rw [h0]
        by_cases hk : ∃ k z, X k = true ∧ xs[k]? = some z ∧ z.i.dst = some t
        · obtain ⟨k, z, _, hz, hd⟩ := hk
          exact .inr (by rw [h.fresh0 he hz hd])
        · left
          rw [hs.sl0 t fun k z hX hz hd => hk ⟨k, z, hX, hz, hd⟩]
  · rw [lookR_dropOnly] at hk
    split at hk
    · simp at hk
    · rename_i hnd
      by_cases hca : ∃ j y z cs', X j = true ∧ xs[j]? = some y ∧ os[j]? = some (Out.cal z k cs')
      · obtain ⟨j, y, z, cs', hj, hy, ho⟩ := hca
        have hjl := (List.getElem?_eq_some_iff.1 hy).1
        obtain ⟨y', o2, d2, f1, f2, f3, _, f5, _⟩ := h j hjl
        rw [hy] at f1; injection f1 with f1; subst f1
        rw [ho] at f2; injection f2 with f2; subst f2
        rw [hs.rfk j y z k cs' hj hy ho, h.refeq xs.length hi (Nat.le_refl _) (fun j2 y2 cs2 h1 h2 h3 => by
          have := hlater j2 y2 k cs2 h1 h2 h3
          exact absurd this hnd) (fun j2 x2 cs2 h1 h2 h3 h4 => by
          obtain ⟨x', o3, d3, g1, g2, g3, _, g5, _⟩ := h j2 h2
          rw [h3] at g1; injection g1 with g1; subst g1
          rw [h4] at g2; injection g2 with g2; subst g2
          exact he j j2 y x2 k cs2 hy f5.2.2.2 h3 g5.1.1)]
        exact hk
      by_cases hex : ∃ j y cs', j < i ∧ xs[j]? = some y ∧ os[j]? = some (.al cs') ∧ y.i.dst = some k
      · obtain ⟨j, y, cs', hj, hy, ho, hd⟩ := hex
        have hX := hcl j ((hdx j y k hj hy hd).resolve_right hnd)
        rw [hr.rf j y cs' k (by simpa using hj) hy ho hd] at hk
        rw [hs.rf j y cs' k hX hy ho hd]; exact hk
      · have h0 : lookR (C i).rf k = lookR (C 0).rf k := hr.rf0 k (fun j y cs' hj hy ho hd => hex ⟨j, y, cs', by simpa using hj, hy, ho, hd⟩) (fun j y z cs' hj hy ho => hca ⟨j, y, z, cs', hcal j z k cs' ho, hy, ho⟩)
        rw [h0] at hk
        rw [hs.rf0 k (fun j z cs' hX hz ho hd => by
          have := h.fresh0R he hz ho hd
          rw [this] at hk; simp at hk) (fun j y z cs' hX hy ho => hca ⟨j, y, z, cs', hX, hy, ho⟩)]
        exact hk
theorem Rep.put {kc : Refs} (h : Res P xs os C) (he : EfOk xs) (hs : Rep xs os (C 0) kc X s) {i : Nat} {x : XD} {o : Out} {d : Nat} {s' : St} (hx : xs[i]? = some x) (ho : os[i]? = some o) (hd : x.i.dst = some d) (hnc : ∀ y k cs, o ≠ Out.cal y k cs)
    (hgh : s'.gh = s.gh) (hsl : ∀ t, look s'.sl t = if d = t then o.sv d else look s.sl t) (hrf : ∀ k, lookR s'.rf k = lookR (outPut s d o).rf k) : Rep xs os (C 0) kc (fun j => X j || decide (j = i)) s' := by
  refine ⟨by rw [hgh, hs.gh], fun j y o' d' hj hy ho' hd' => ?_, fun t ht => ?_, fun j y cs d' hj hy ho' hd' => ?_, fun j y z k cs hj hy ho' => ?_, fun k hk hk2 => ?_⟩
  · rw [hsl]
    by_cases e : j = i
    · subst e
      rw [hx] at hy; injection hy with hy; subst hy
      rw [ho] at ho'; injection ho' with ho'; subst ho'
      rw [hd] at hd'; injection hd' with hd'; subst hd'
      rw [if_pos rfl]
    · rw [if_neg (fun e2 => by subst e2; exact e (h.inj he hy hx hd' hd))]
      exact hs.sl j y o' d' (by simpa [e] using hj) hy ho' hd'
  · rw [hsl, if_neg (fun e => by subst e; exact ht i x (by simp) hx hd)]
    exact hs.sl0 t fun j y hj hy => ht j y (by simp [hj]) hy
  · rw [hrf, rf_outPut]
    by_cases e : j = i
    · subst e
      rw [hx] at hy; injection hy with hy; subst hy
      rw [ho] at ho'; injection ho' with ho'; subst ho'
      rw [hd] at hd'; injection hd' with hd'; subst hd'
      simp only [if_true]
    · have := hs.rf j y cs d' (by simpa [e] using hj) hy ho' hd'
      split
      · rw [if_neg (fun e2 => by subst e2; exact e (h.inj he hy hx hd' hd))]; exact this
      · exact absurd rfl (hnc _ _ _)
      · exact this
  · by_cases e : j = i
    · subst e
      rw [ho] at ho'; injection ho' with ho'
      exact absurd ho' (hnc _ _ _)
    · have h0 := hs.rfk j y z k cs (by simpa [e] using hj) hy ho'
      obtain ⟨y', o2, d2, f1, f2, f3, _, f5, _⟩ := h j (List.getElem?_eq_some_iff.1 hy).1
      rw [hy] at f1; injection f1 with f1; subst f1
      rw [ho'] at f2; injection f2 with f2; subst f2
      obtain ⟨x', o3, d3, g1, g2, g3, _, g5, _⟩ := h i (List.getElem?_eq_some_iff.1 hx).1
      rw [hx] at g1; injection g1 with g1; subst g1
      rw [ho] at g2; injection g2 with g2; subst g2
      rw [hrf, rf_outPut]
      split
      · rename_i cs2 hq
        rw [if_neg (fun e2 => by subst e2; exact he j i y x d cs2 hy f5.2.2.2 hx g5.1.1 hd)]; exact h0
      · exact absurd rfl (hnc _ _ _)
      · exact h0
  · have h0 := hs.rf0 k (fun j y cs hj hy ho' => hk j y cs (by simp [hj]) hy ho') (fun j y z cs hj hy ho' => hk2 j y z cs (by simp [hj]) hy ho')
    rw [hrf]
    cases o with
    | al cs =>
      simp only [outPut, lookR_putR]
      rw [if_neg (fun e => by subst e; exact hk i x _ (by simp) hx ho hd)]; exact h0
    | val y => exact h0
    | skip => exact h0
    | cal y k cs => exact absurd rfl (hnc _ _ _)
end
def Sit (ω0 : Nat → Lab) (m0 : Mc) (N : Nat) (a : Act) (w : World) (st : St) : Prop :=
  a.defers = [] ∧ a.tmps.size = N ∧ ∃ ω rb, RR ω ⟨a.tmps, m0.G, w, rb⟩ st ∧ Tr ω0 ⟨a.tmps, m0.G, m0.w, m0.rb⟩ ω ⟨a.tmps, m0.G, w, rb⟩
section
variable {P : Program} {E : Env} {ω0 : Nat → Lab} {m0 : Mc} {N : Nat}
theorem Tr.tmps {ω ω' : Nat → Lab} {T T' T1 : Array Value} {G : Array Value} {w w' : World} {rb rb' : Nat → Nat} (h : Tr ω ⟨T, G, w, rb⟩ ω' ⟨T', G, w', rb'⟩) : Tr ω ⟨T1, G, w, rb⟩ ω' ⟨T1, G, w', rb'⟩ :=
  ⟨h.os, h.tape, h.output, h.size, h.fr, rfl, rfl, h.rb⟩
theorem Sit.kill {a : Act} {w : World} {st : St} (h : Sit ω0 m0 N a w st) (l : List Nat) : Sit ω0 m0 N a w (killSt l st) := by
  unfold killSt
  split
  · exact h
  · obtain ⟨h1, h2, ω, rb, h3, h4⟩ := h
    exact ⟨h1, h2, ω, rb, h3.forget, h4⟩
theorem Sit.killR {a : Act} {w : World} {st : St} (h : Sit ω0 m0 N a w st) (l : List Nat) : Sit ω0 m0 N a w (killR l st) := by
  unfold Eng.killR
  split
  · exact h
  · obtain ⟨h1, h2, ω, rb, h3, h4⟩ := h
    exact ⟨h1, h2, ω, rb, h3.forget, h4⟩
theorem put_size (a : Act) (d : Option Nat) (v : Value) : (a.put d v).tmps.size = a.tmps.size := by cases d <;> simp [Act.put]
theorem SVR_of_eq {ω : Nat → Lab} {m : Mc} {st : St} (h : RR ω m st) {t : Nat} {b : Bool} (hb : (look st.sl t).c1 = .bool b) : m.T.getD t undef = .bool b := by
  have hv := (SVR_c1 (h.r.sl t) (by rw [hb]; simp)).2
  rw [hb] at hv; exact hv
theorem tmp_bool {T : Array Value} {t : Nat} {b : Bool} (h : T.getD t undef = .bool b) : T[t]? = some (.bool b) := by
  rw [Array.getD_eq_getD_getElem?] at h
  cases hx : T[t]? with
  | none => rw [hx] at h; simp [undef] at h
  | some v => rw [hx] at h; simpa using h
theorem RR.putU {ω : Nat → Lab} {m : Mc} {st : St} (h : RR ω m st) {d : Nat} (v : Value) (hd : (look st.sl d).sh = .no) : RR ω { m with T := m.T.setIfInBounds d v } st := by
  have h1 := h.r.sameW (m' := { m with T := m.T.setIfInBounds d v }) (fun _ => false) rfl rfl rfl (fun s => by
    by_cases e : d = s
    · subst e; exact .inr hd
    · left
      simp [Array.getD_eq_getD_getElem?, Array.getElem?_setIfInBounds_ne e]) (fun r p hp _ => by
    have hal := h.al r p hp
    cases hr : p.r with
    | slot s c =>
      rw [hr] at hal
      simp only [hdR]
      have hne : d ≠ s := by
        intro e; subst e
        simp [rootCell, SV.get, hd, Cell.isOwn] at hal
      simp [Array.getD_eq_getD_getElem?, Array.getElem?_setIfInBounds_ne hne]
    | _ => rfl)
  rw [filt_false] at h1
  exact ⟨h1, h.al⟩
theorem look_killSt {ks : List Nat} {st : St} {d : Nat} (h : ks.contains d = true) : (look (killSt ks st).sl d).sh = .no := by
  unfold killSt
  split
  · simp at h
  · unfold forget
    split <;> simp only [look_keepS] <;> rw [if_neg (by simpa using h)]
theorem Sit.putU {a : Act} {w : World} {st : St} (h : Sit ω0 m0 N a w st) {d : Nat} (v : Value) (hd : (look st.sl d).sh = .no) : Sit ω0 m0 N (a.put (some d) v) w st := by
  obtain ⟨h1, h2, ω, rb, h3, h4⟩ := h
  exact ⟨h1, by simpa [Act.put] using h2, ω, rb, by simpa [Act.put] using h3.putU v hd, Tr.tmps h4⟩
theorem wanted_of {ops : Array Oper} {o : Oper} {i : XI} {T : Array Value} (hg : mG ops o.guard i.guard = true) : (i.guard = none → Region.wanted o (yielded ops T) = true) ∧
    (∀ t w b, i.guard = some (t, w) → T[t]? = some (.bool b) → Region.wanted o (yielded ops T) = (b == w)) ∧ (∀ t w, i.guard = some (t, w) → T.getD t undef = undef → Region.wanted o (yielded ops T) = false) := by
  refine ⟨fun h => ?_, fun t w b h hv => ?_, fun t w h hv => ?_⟩
  · rw [h] at hg
    cases hgo : o.guard with
    | none => simp [Region.wanted, hgo]
    | some x => rw [hgo] at hg; obtain ⟨_, _⟩ := x; simp [mG] at hg
  · rw [h] at hg
    cases hgo : o.guard with
    | none => rw [hgo] at hg; simp [mG] at hg
    | some y =>
      obtain ⟨g, want'⟩ := y
      rw [hgo] at hg
      simp only [mG, Bool.and_eq_true, beq_iff_eq, decide_eq_true_eq] at hg
      obtain ⟨rfl, hgt⟩ := hg
      have hy : yielded ops T g = some b := by simp [yielded, hgt, hv]
      simp [Region.wanted, hgo, hy]
  · rw [h] at hg
    cases hgo : o.guard with
    | none => rw [hgo] at hg; simp [mG] at hg
    | some y =>
      obtain ⟨g, want'⟩ := y
      rw [hgo] at hg
      simp only [mG, Bool.and_eq_true, beq_iff_eq, decide_eq_true_eq] at hg
      obtain ⟨rfl, hgt⟩ := hg
      have hy : yielded ops T g = none := by
        simp only [yielded, hgt, Option.bind_some]
        cases hx : T[t]? with
        | none => rfl
        | some v =>
          have : v = undef := by rw [Array.getD_eq_getD_getElem?, hx] at hv; simpa using hv
          rw [this]; rfl
      simp [Region.wanted, hgo, hy]
theorem dead_sound {ops : Array Oper} {Q : Exit → Act → World → Prop} {t : Nat} {want b : Bool} (hbw : b ≠ want) {ks : List Nat} {st0 : St} (hks : ∀ d, ks.contains d = true → (look st0.sl d).sh = .no) :
    ∀ (os : List Oper) (is : List XI) (j : Nat) (U : List Nat) (R : List Nat) (a : Act) (w : World), (∀ i, i < os.length → os[i]? = ops[j + i]?) → mIs P N ops os is = true → deadOk t want U is = true → (∀ d ∈ dstsOf is, ks.contains d = true) →
      a.tmps[t]? = some (.bool b) → (∀ u ∈ U, a.tmps.getD u undef = undef) → Sit ω0 m0 N a w st0 →
      (∀ a', Sit ω0 m0 N a' w st0 → wpOps P ops Q R a' w) → wpOps P ops Q (List.range' j os.length ++ R) a w
  | [], [], j, U, R, a, w, _, _, _, _, _, _, hS, hK => by simpa using hK a hS
  | [], _ :: _, _, _, _, _, _, _, hm, _, _, _, _, _, _ => by simp [mIs] at hm
  | _ :: _, [], _, _, _, _, _, _, hm, _, _, _, _, _, _ => by simp [mIs] at hm
  | o :: os, i :: is, j, U, R, a, w, hg, hm, hdead, hds, ht, hU, hS, hK => by
    simp only [mIs, Bool.and_eq_true] at hm
    have h0 : ops[j]? = some o := by have := hg 0 (by simp); simpa using this.symm
    simp only [List.length_cons, List.range'_succ, List.cons_append, wpOps, h0]
    have hmi := hm.1
    simp only [mI, Bool.and_eq_true, decide_eq_true_eq] at hmi
    obtain ⟨⟨⟨hdst, hrng⟩, hgd⟩, hmE⟩ := hmi
    simp only [deadOk, Bool.and_eq_true] at hdead
    obtain ⟨hd1, hd2⟩ := hdead
    cases hgi : i.guard with
    | none => rw [hgi] at hd1; simp at hd1
    | some x =>
      obtain ⟨g, w'⟩ := x
      cases hdi : i.dst with
      | none => rw [hgi, hdi] at hd1; simp at hd1
      | some d =>
        rw [hgi, hdi] at hd1
        simp only [Bool.and_eq_true, Bool.or_eq_true, beq_iff_eq, Bool.not_eq_true', beq_eq_false_iff_ne] at hd1
        obtain ⟨hg1, hne⟩ := hd1
        have hw : Region.wanted o (yielded ops a.tmps) = false := by
          rcases hg1 with ⟨rfl, rfl⟩ | hu
          · rw [(wanted_of hgd).2.1 _ _ b hgi ht]; simpa using hbw
          · exact (wanted_of hgd).2.2 _ _ hgi (hU g (by simpa using hu))
        rw [hw]
        simp only [Bool.false_eq_true, if_false]
        have hod : o.dst = some d := by rw [hdst, hdi]
        rw [hod]
        have hsize : d < a.tmps.size := by
          rw [hod] at hrng
          simp only [Bool.and_eq_true, decide_eq_true_eq] at hrng
          rw [hS.2.1]; exact hrng.1
        refine dead_sound hbw hks os is (j + 1) (d :: U) R _ w (fun k hk => ?_) hm.2 (by rw [hdi] at hd2; exact hd2) (fun d' hd' => hds d' (by simp [dstsOf, hdi, hd'])) ?_ ?_ (hS.putU undef (hks d (hds d (by simp [dstsOf, hdi])))) hK
        · have := hg (k + 1) (by simpa using hk)
          simp only [List.getElem?_cons_succ] at this
          rw [this]; congr 1; omega
        · simp only [Act.put]
          rw [Array.getElem?_setIfInBounds_ne hne]; exact ht
        · intro u hu
          simp only [Act.put]
          by_cases e : d = u
          · subst e; simp [Array.getD_eq_getD_getElem?, hsize]
          · rw [Array.getD_eq_getD_getElem?, Array.getElem?_setIfInBounds_ne e, ← Array.getD_eq_getD_getElem?]
            exact hU u (by rcases List.mem_cons.1 hu with rfl | hu; exact absurd rfl e; exact hu)
theorem mIs_append {ops : Array Oper} : ∀ {is1 is2 : List XI} {os : List Oper}, mIs P N ops os (is1 ++ is2) = true → ∃ os1 os2, os = os1 ++ os2 ∧ mIs P N ops os1 is1 = true ∧ mIs P N ops os2 is2 = true
  | [], is2, os, h => ⟨[], os, rfl, rfl, h⟩
  | i :: is1, is2, os, h => by
    cases os with
    | nil => simp [mIs] at h
    | cons o os =>
      simp only [List.cons_append, mIs, Bool.and_eq_true] at h
      obtain ⟨os1, os2, rfl, h1, h2⟩ := mIs_append h.2
      exact ⟨o :: os1, os2, rfl, by simp [mIs, h.1, h1], h2⟩
theorem wi_sound {ops : Array Oper} {Q : Exit → Act → World → Prop} : ∀ (x : XL) (K : St → Prop) (os : List Oper) (j : Nat) (R : List Nat), (∀ i, i < os.length → os[i]? = ops[j + i]?) → mIs P N ops os x.flat = true → scOk x = true →
    ∀ (st : St) (a : Act) (w : World), Sit ω0 m0 N a w st → WI P x K st → (∀ a w st, Sit ω0 m0 N a w st → K st → wpOps P ops Q R a w) →
      wpOps P ops Q (List.range' j os.length ++ R) a w
  | .nil, K, os, j, R, hg, hm, _, st, a, w, hS, hW, hQ => by
    cases os with
    | nil => simpa using hQ a w st hS hW
    | cons o os => simp [XL.flat, mIs] at hm
  | .op i r, K, [], j, R, hg, hm, hok, st, a, w, hS, hW, hQ => by simp [XL.flat, mIs] at hm
  | .op i r, K, o :: os, j, R, hg, hm, hok, st, a, w, hS, hW, hQ => by
    simp only [XL.flat, mIs, Bool.and_eq_true] at hm
    have h0 : ops[j]? = some o := by have := hg 0 (by simp); simpa using this.symm
    have hrest := wi_sound (ops := ops) (Q := Q) r K os (j + 1) R (fun k hk => by
      have := hg (k + 1) (by simpa using hk); simp only [List.getElem?_cons_succ] at this; rw [this]; congr 1; omega) hm.2 hok
    simp only [List.length_cons, List.range'_succ, List.cons_append, wpOps, h0]
    have hmi := hm.1
    simp only [mI, Bool.and_eq_true, decide_eq_true_eq] at hmi
    obtain ⟨⟨⟨hdst, hrng⟩, hgd⟩, hmE⟩ := hmi
    have hd : ∀ t, o.dst = some t → t < a.tmps.size ∧ t < KEY := fun t ht => by
      rw [ht] at hrng
      simp only [Bool.and_eq_true, decide_eq_true_eq] at hrng
      exact ⟨by rw [hS.2.1]; exact hrng.1, hrng.2⟩
    obtain ⟨hdf, hsz, ω, rb, hR, hT⟩ := hS
    have go : goK P i (WI P r K) st → o.wp P a w (wpOps P ops Q (List.range' (j + 1) os.length ++ R)) Q := by
      intro hgo
      unfold goK at hgo
      rw [← hdst] at hgo
      refine goW_sound (m := ⟨a.tmps, m0.G, w, rb⟩) hR rfl hmE hd hgo _ Q fun st' a' w' ω' rb' hk h1 h2 h3 => ?_
      have hS' : Sit ω0 m0 N a' w' st' := ⟨by rw [h1]; exact hdf, h3.T.trans hsz, ω', rb', h2,
        (Tr.tmps hT).trans ⟨h3.os, h3.tape, h3.output, h3.size, h3.fr, rfl, rfl, h3.rb⟩⟩
      exact hrest _ a' w' (hS'.killR i.kill) hk hQ
    have sk : skipK i (WI P r K) st → wpOps P ops Q (List.range' (j + 1) os.length ++ R) (a.put o.dst undef) w := by
      intro hk
      refine hrest _ _ w (Sit.killR ?_ i.kill) hk hQ
      rw [← hdst]
      cases hdd : o.dst with
      | none => exact ⟨hdf, hsz, ω, rb, hR, hT⟩
      | some d =>
        have := hR.put (d := d) (v := undef) (x := .undef) (hd d hdd).1 (SVR_no rfl) (fun c p hp => by simp [SV.get, Cell.places] at hp)
        exact ⟨hdf, by simpa [Act.put] using hsz, ω, rb, by simpa [Act.put, skipDst] using this, Tr.tmps hT⟩
    simp only [WI] at hW
    cases hgi : i.guard with
    | none =>
      rw [hgi] at hW
      rw [(wanted_of hgd).1 hgi, if_pos rfl]
      exact .inl (go hW)
    | some x =>
      obtain ⟨t, want⟩ := x
      rw [hgi] at hW
      simp only at hW
      split at hW
      · rename_i b hb
        rw [(wanted_of hgd).2.1 t want b hgi (tmp_bool (SVR_of_eq hR hb))]
        cases b <;> cases want <;> simp only [Br, guardK] at hW <;> simp only [beq_self_eq_true, if_true, reduceCtorEq, Bool.false_eq_true, if_false, beq_iff_eq] <;> first | exact .inl (go hW) | exact sk hW
      · exact hW.elim
  | .sc t want blk ks d g c rhs kill r, K, os, j, R, hg, hm, hok, st, a, w, hS, hW, hQ => by
    simp only [XL.flat] at hm
    obtain ⟨os1, os2, rfl, hm1, hm2⟩ := mIs_append hm
    cases os2 with
    | nil => simp [mIs] at hm2
    | cons o os2 =>
      simp only [mIs, Bool.and_eq_true] at hm2
      simp only [scOk, Bool.and_eq_true] at hok
      obtain ⟨⟨⟨hdead, hks⟩, hokb⟩, hokr⟩ := hok
      have hlen : List.range' j (os1 ++ o :: os2).length = List.range' j os1.length ++ (j + os1.length) :: List.range' (j + os1.length + 1) os2.length := by
        rw [List.length_append, List.length_cons, ← List.range'_append_1, List.range'_succ]
      rw [hlen, List.append_assoc, List.cons_append]
      have hg1 : ∀ i, i < os1.length → os1[i]? = ops[j + i]? := fun i hi => by rw [← hg i (by simp; omega), List.getElem?_append_left hi]
      have ho : ops[j + os1.length]? = some o := by rw [← hg os1.length (by simp)]; simp
      have hg2 : ∀ i, i < os2.length → os2[i]? = ops[j + os1.length + 1 + i]? := fun i hi => by
        rw [show j + os1.length + 1 + i = j + (os1.length + 1 + i) by omega, ← hg _ (by simp; omega), List.getElem?_append_right (by omega), show os1.length + 1 + i - os1.length = i + 1 by omega]
        simp
      have hrest := wi_sound (ops := ops) (Q := Q) r K os2 (j + os1.length + 1) R hg2 hm2.2 hokr
      simp only [WI] at hW
      split at hW
      · rename_i b hb
        have hmi := hm2.1
        simp only [mI, pickXI, Bool.and_eq_true, decide_eq_true_eq] at hmi
        obtain ⟨⟨⟨hdst, hrng⟩, hgd⟩, hmE⟩ := hmi
        have hdst : o.dst = some d := of_decide_eq_true hdst
        -- the pick, whichever way it was reached
        have pick : ∀ (x : Bool) (s : St), (evX s c).c1 = .bool b → gateOk g s → killK kill (WI P r K) (putSlot s d ⟨.one, [.bool (scVal want b x)]⟩) →
            ∀ (a' : Act) (w' : World), Sit ω0 m0 N a' w' s → (b = want → ∃ st1, (evX st1 rhs).c1 = .bool x ∧ Sit ω0 m0 N a' w' st1) →
            wpOps P ops Q ((j + os1.length) :: (List.range' (j + os1.length + 1) os2.length ++ R)) a' w' := by
          intro x s hc hgate hK a' w' hS' hx
          simp only [wpOps, ho]
          obtain ⟨hdf, hsz, ω, rb, hR, hT⟩ := hS'
          have hw : Region.wanted o (yielded ops a'.tmps) = true := by
            cases hgg : g with
            | none => exact (wanted_of (i := pickXI want d g c rhs) hgd).1 hgg
            | some y =>
              obtain ⟨tg, wg⟩ := y
              rw [hgg] at hgate
              rw [(wanted_of (i := pickXI want d g c rhs) hgd).2.1 tg wg wg hgg (tmp_bool (SVR_of_eq hR hgate))]
              simp
          rw [hw, if_pos rfl]
          left
          simp only [mE, mQ] at hmE
          split at hmE
          · rename_i c' a1 a2 hop
            simp only [Bool.and_eq_true] at hmE
            obtain ⟨⟨hmc, hma⟩, hmb⟩ := hmE
            have hcv : a'.eval c' = .bool b := (c1_of (m := ⟨a'.tmps, m0.G, w', rb⟩) hR rfl hmc hc (by simp) (fun _ => .res 0)).1
            have hres : (if b then a'.eval a1 else a'.eval a2) = .bool (scVal want b x) := by
              have hrv : b = want → ∀ z, mO z rhs = true → a'.eval z = .bool x := fun e z hz => by
                obtain ⟨st1, h1, _, _, ω1, rb1, hR1, _⟩ := hx e
                exact (c1_of (m := ⟨a'.tmps, m0.G, w', rb1⟩) hR1 rfl hz h1 (by simp) (fun _ => .res 0)).1
              have hconst : ∀ z q, mO z (.c ⟨.one, [.bool q]⟩) = true → a'.eval z = .bool q := fun z q hz => by
                have := (c1_of (c := .bool q) (m := ⟨a'.tmps, m0.G, w', rb⟩) hR rfl hz rfl (by simp) (fun _ => .res 0)).1
                exact this
              cases b <;> cases want <;> simp only [scVal, Bool.false_eq_true, if_false, if_true, Bool.true_and, Bool.false_and, Bool.true_or, Bool.false_or] at hma hmb ⊢
              · exact hrv rfl _ hmb
              · exact hconst _ _ hmb
              · exact hconst _ _ hma
              · exact hrv rfl _ hma
            unfold Oper.wp
            have hex : (execOp a'.eval o).run P w' = .ok (.value (.bool (scVal want b x))) w' := by
              simp only [execOp, hop, hcv, asBool, pure_bind, Sem.run_pure, hres]
            rw [hex, Oper.upon_value, hdst]
            have hdd : d < a'.tmps.size := by
              rw [hdst] at hrng
              simp only [Bool.and_eq_true, decide_eq_true_eq] at hrng
              rw [hsz]; exact hrng.1
            have hR2 := hR.put (d := d) (v := .bool (scVal want b x)) (x := ⟨.one, [.bool (scVal want b x)]⟩) hdd (one_sound rfl rfl) (one_al (by simp [Cell.places]))
            have hS2 : Sit ω0 m0 N (a'.put (some d) (.bool (scVal want b x))) w' (putSlot s d ⟨.one, [.bool (scVal want b x)]⟩) :=
              ⟨hdf, by simpa [Act.put] using hsz, ω, rb, by simpa [Act.put] using hR2, Tr.tmps hT⟩
            exact hrest _ _ w' (hS2.killR kill) hK hQ
          · simp at hmE
        have hStw : b = want → Sit ω0 m0 N a w (putSlot st t ⟨.one, [.bool want]⟩) := by
          intro hbw
          obtain ⟨hdf, hsz, ω, rb, hR, hT⟩ := hS
          have htv := tmp_bool (SVR_of_eq hR hb)
          have hlt : t < a.tmps.size := (Array.getElem?_eq_some_iff.1 htv).1
          have := hR.put (d := t) (v := .bool want) (x := ⟨.one, [.bool want]⟩) hlt (one_sound rfl rfl) (one_al (by simp [Cell.places]))
          have e : a.tmps.setIfInBounds t (.bool want) = a.tmps := by
            apply Array.ext_getElem?
            intro i
            by_cases hi : t = i
            · subst hi; rw [htv, hbw]; simp [hlt]
            · rw [Array.getElem?_setIfInBounds_ne hi]
          simp only [e] at this
          exact ⟨hdf, hsz, ω, rb, this, hT⟩
        have htv : a.tmps[t]? = some (.bool b) := by obtain ⟨_, _, ω, rb, hR, _⟩ := hS; exact tmp_bool (SVR_of_eq hR hb)
        have dead : b ≠ want → (∀ a', Sit ω0 m0 N a' w (killSt ks st) → wpOps P ops Q ((j + os1.length) :: (List.range' (j + os1.length + 1) os2.length ++ R)) a' w) →
            wpOps P ops Q (List.range' j os1.length ++ (j + os1.length) :: (List.range' (j + os1.length + 1) os2.length ++ R)) a w := fun hbw hk =>
          dead_sound hbw (st0 := killSt ks st) (fun d hd => look_killSt hd) os1 blk.flat j [] _ a w hg1 hm1 hdead (fun d hd => List.all_eq_true.1 hks d hd) htv (by simp) (hS.kill ks) hk
        rcases hW with ⟨hsame, hc, hgate, x, hrun, hK⟩ | ⟨hrun, hskip⟩
        · by_cases hbw : b = want
          · -- the block runs
            refine wi_sound blk _ os1 j _ hg1 hm1 hokb _ a w (hStw hbw) (hrun hbw) fun a' w' st' hS' hend => ?_
            obtain ⟨h1, h2⟩ := hend
            exact pick x _ hc hgate hK a' w' (by
              rw [hbw] at hsame
              rw [hsame] at h2
              rw [← h2]; exact hS'.kill ks) fun _ => ⟨st', h1, hS'⟩
          · exact dead hbw fun a' hS' => pick x _ hc hgate hK a' w hS' fun e => absurd e hbw
        · by_cases hbw : b = want
          · refine wi_sound blk _ os1 j _ hg1 hm1 hokb _ a w (hStw hbw) (hrun hbw) fun a' w' st' hS' hend => ?_
            obtain ⟨x, h1, h2, h3, h4⟩ := hend
            exact pick x (killSt ks st') (by rw [hbw]; exact h2) h3 (by rw [show scVal want b x = x by subst hbw; cases b <;> rfl]; exact h4) a' w' (hS'.kill ks) fun _ => ⟨st', h1, hS'⟩
          · obtain ⟨hc, hgate, hK⟩ := hskip (by cases b <;> cases want <;> simp_all)
            exact dead hbw fun a' hS' => pick b _ hc hgate (by rw [show scVal want b b = b by cases b <;> cases want <;> first | rfl | exact absurd rfl hbw]; exact hK) a' w hS' fun e => absurd e hbw
      · exact hW.elim
end
section
variable {P : Program} {ω0 : Nat → Lab} {m0 : Mc} {N : Nat} {xs : List XD} {os : List Out} {C : Nat → St} {X : Nat → Bool} {s : St}
theorem R.congr {ω : Nat → Lab} {m : Mc} {a b : St} (h : R ω m a) (hs : ∀ t, look b.sl t = look a.sl t) (hr : ∀ k, lookR b.rf k = lookR a.rf k) (hg : b.gh = a.gh) : R ω m b :=
  ⟨fun t => by rw [hs]; exact h.sl t, fun i => by rw [hg]; exact h.gh i, fun k cs hk => h.rf k cs (by rw [← hr]; exact hk)⟩
theorem rootCell_congr {a b : St} (hs : ∀ t, look b.sl t = look a.sl t) (hr : ∀ k, lookR b.rf k = lookR a.rf k) (hg : b.gh = a.gh) (r : Root) : rootCell b r = rootCell a r := by
  cases r <;> simp only [rootCell, hs, hr, hg]
theorem Sit.congr {a : Act} {w : World} {x y : St} (h : Sit ω0 m0 N a w x) (hs : ∀ t, look y.sl t = look x.sl t) (hr : ∀ k, lookR y.rf k = lookR x.rf k) (hg : y.gh = x.gh) : Sit ω0 m0 N a w y := by
  obtain ⟨h1, h2, ω, rb, h3, h4⟩ := h
  refine ⟨h1, h2, ω, rb, ⟨h3.r.congr hs hr hg, fun r p hp => ?_⟩, h4⟩
  rw [rootCell_congr hs hr hg] at hp ⊢
  exact h3.al r p hp
theorem mIs_get {ops : Array Oper} : ∀ {l : List Oper} {is : List XI} {i : Nat} {x : XI}, mIs P N ops l is = true → is[i]? = some x → ∃ o, l[i]? = some o ∧ mI P N ops o x = true
  | [], [], i, x, _, h => by simp at h
  | [], _ :: _, _, _, hm, _ => by simp [mIs] at hm
  | _ :: _, [], _, _, hm, _ => by simp [mIs] at hm
  | o :: l, y :: is, i, x, hm, h => by
    simp only [mIs, Bool.and_eq_true] at hm
    cases i with
    | zero => simp at h; subst h; exact ⟨o, rfl, hm.1⟩
    | succ i => simp at h; simpa using mIs_get hm.2 h
theorem mIs_len {ops : Array Oper} : ∀ {l : List Oper} {is : List XI}, mIs P N ops l is = true → l.length = is.length
  | [], [], _ => rfl
  | [], _ :: _, hm => by simp [mIs] at hm
  | _ :: _, [], hm => by simp [mIs] at hm
  | o :: l, y :: is, hm => by
    simp only [mIs, Bool.and_eq_true] at hm
    simp [mIs_len hm.2]
theorem gWant_le {a b : St} (h : a.le b) {g : Option (Nat × Bool)} {q : Bool} (hg : gWant a g = some q) : gWant b g = some q := by
  cases g with
  | none => exact hg
  | some x =>
    obtain ⟨t, w⟩ := x
    simp only [gWant] at hg ⊢
    rcases h.1 t with e | e
    · rw [← e]; exact hg
    · rw [e] at hg; simp at hg
theorem wanted_gWant {ops : Array Oper} {o : Oper} {i : XI} {a : Act} {w : World} {q : Bool} (hS : Sit ω0 m0 N a w s) (hg : mG ops o.guard i.guard = true) (hq : gWant s i.guard = some q) : Region.wanted o (yielded ops a.tmps) = q := by
  obtain ⟨_, _, ω, rb, hR, _⟩ := hS
  cases hgi : i.guard with
  | none => rw [hgi] at hq; simp only [gWant, Option.some.injEq] at hq; subst hq; exact (wanted_of hg).1 hgi
  | some x =>
    obtain ⟨t, w'⟩ := x
    rw [hgi] at hq
    simp only [gWant] at hq
    split at hq
    · rename_i b hs hc
      simp only [Option.some.injEq] at hq; subst hq
      exact (wanted_of hg).2.1 t w' b hgi (tmp_bool (SVR_of_eq hR (by unfold SV.c1; rw [hs, hc])))
    · rename_i hs hc
      simp only [Option.some.injEq] at hq; subst hq
      refine (wanted_of hg).2.2 t w' hgi ?_
      have := hR.r.sl t
      rw [SVR_iff (by rw [hs]; simp), hs] at this
      obtain ⟨⟨arr, harr, hco⟩, _⟩ := this
      have harr' : a.tmps.getD t undef = .tuple arr := harr
      have : arr = #[] := by
        obtain ⟨l⟩ := arr
        cases l with
        | nil => rfl
        | cons v l => simp [compOk] at hco
      rw [harr', this]; rfl
    · simp at hq
theorem flat_filt {d : Nat} : ∀ {cs : List Cell}, cs.all Cell.flat = true → cs.map (Cell.filt (hitK d)) = cs
  | [], _ => rfl
  | c :: cs, h => by
    simp only [List.all_cons, Bool.and_eq_true] at h
    rw [List.map_cons, flat_filt h.2]
    congr 1
    cases c <;> first | rfl | simp [Cell.flat] at h
theorem exec_sound {ops : Array Oper} {Q : Exit → Act → World → Prop} {K : Act → World → Prop} {a : Act} {w : World} {i : Nat} {x : XD} {oi : Oper} (h : Res P xs os C) (he : EfOk xs) (hs : Rep xs os (C 0) (C xs.length).rf X s) (hcal : ∀ j y k cs, os[j]? = some (Out.cal y k cs) → X j = true)
    (hx : xs[i]? = some x) (hle : (dropOnly x.drop (C i)).le s) (hi : X i = false) (hlast : ∀ j, xs.length ≤ j → X j = false) (hclo : ∀ j y, X j = true → xs[j]? = some y → ∀ k, y.cl.contains k = true → X k = true) (hna : ∀ (i j : Nat) (x y : XD) (d : Nat) (cs : List Cell), i < j → xs[i]? = some x → x.i.op = .alloc cs → x.i.dst = some d → xs[j]? = some y → y.cl.contains i = true ∨ y.na.contains d = true) (hop : ops[i]? = some oi) (hm : mI P N ops oi x.i = true) (hS : Sit ω0 m0 N a w s)
    (hK : ∀ a' w' s', Sit ω0 m0 N a' w' s' → Rep xs os (C 0) (C xs.length).rf (fun j => X j || decide (j = i)) s' → K a' w') : wpOp P ops Q i K a w := by
  have hil := (List.getElem?_eq_some_iff.1 hx).1
  obtain ⟨x', o, d, e1, e2, e3, e4, e5, e6⟩ := h i hil
  rw [hx] at e1; injection e1 with e1; subst e1
  have hfr0 := hs.fresh h he hx e3 hi
  have hfr : (look s.sl d).sh = .no := by rw [hfr0]
  simp only [mI, Bool.and_eq_true, decide_eq_true_eq] at hm
  obtain ⟨⟨⟨hdst, hrng⟩, hgd⟩, hmE⟩ := hm
  have hod : oi.dst = some d := by rw [hdst, e3]
  have hd : ∀ t, oi.dst = some t → t < a.tmps.size ∧ t < KEY := fun t ht => by
    rw [ht] at hrng
    simp only [Bool.and_eq_true, decide_eq_true_eq] at hrng
    exact ⟨by rw [hS.2.1]; exact hrng.1, hrng.2⟩
  unfold wpOp
  simp only [hop]
  have hputs : ∀ y, putSlot s d y = ⟨putS s.sl d y, s.rf, s.gh⟩ := fun y => by
    unfold putSlot
    rw [if_neg]
    simp [SV.owns, hfr]
  have run : ∀ (E : Env) (hE : EnvOk P E) (st' : St), step E s oi.dst x.i.op = some st' → (Rep xs os (C 0) (C xs.length).rf (fun j => X j || decide (j = i)) st') → oi.wp P a w K Q := by
    intro E hE st' hst hrep
    obtain ⟨hdf, hsz, ω, rb, hR, hT⟩ := hS
    refine step_sound (m := ⟨a.tmps, m0.G, w, rb⟩) hE hR rfl hmE hd hst _ Q fun a' w' ω' rb' h1 h2 h3 => ?_
    have hS' : Sit ω0 m0 N a' w' st' := ⟨by rw [h1]; exact hdf, h3.T.trans hsz, ω', rb', h2,
      (Tr.tmps hT).trans ⟨h3.os, h3.tape, h3.output, h3.size, h3.fr, rfl, rfl, h3.rb⟩⟩
    exact hK a' w' st' hS' hrep
  cases o with
  | val y =>
    obtain ⟨⟨hk, hnv, ⟨E, hE, hv⟩, hg⟩, hef⟩ := e5
    rw [wanted_gWant hS hgd (gWant_le hle hg), if_pos rfl]
    left
    refine run E hE _ (by rw [hod]; exact le_step hle hk hv hfr) ?_
    exact hs.put h he hx e2 e3 (by simp) (by rw [hputs]) (fun t => by rw [hputs]; simp only [look_putS]; rfl) (fun k => by rw [hputs]; rfl)
  | cal y k cs =>
    have := hcal i y k cs e2
    rw [hi] at this; simp at this
  | skip =>
    rw [wanted_gWant hS hgd (gWant_le hle e5.1)]
    simp only [Bool.false_eq_true, if_false]
    rw [hod]
    obtain ⟨hdf, hsz, ω, rb, hR, hT⟩ := hS
    have hp := hR.put (d := d) (v := undef) (x := ⟨.tup [], []⟩) (hd d hod).1 ⟨⟨#[], rfl, trivial⟩, trivial⟩ (fun c p hp => by simp [SV.get, Cell.places] at hp)
    refine hK _ w _ ⟨hdf, by simpa [Act.put] using hsz, ω, rb, by simpa [Act.put] using hp, Tr.tmps hT⟩ ?_
    exact hs.put h he hx e2 e3 (by simp) (by rw [hputs]) (fun t => by rw [hputs]; simp only [look_putS]; rfl) (fun k => by rw [hputs]; rfl)
  | al cs =>
    obtain ⟨⟨ho, hg0, hno, ⟨hh1, hh2, hh3, hh4⟩, hnc⟩, hef⟩ := e5
    rw [(wanted_of hgd).1 hg0, if_pos rfl]
    left
    have hr := h.rep he i (by omega)
    have hX : ∀ j, X j = true → j < xs.length ∧ j ≠ i := fun j hj => by
      refine ⟨?_, ?_⟩
      · apply Nat.lt_of_not_le; intro hle'; rw [hlast j hle'] at hj; simp at hj
      · intro e; subst e; rw [hi] at hj; simp at hj
    -- what has run bears no cell that leads to the new struct
    have hlater : ∀ j y o' d', X j = true → i < j → xs[j]? = some y → os[j]? = some o' → y.i.dst = some d' → (o'.sv d').filt (hitK d) = o'.sv d' ∧ ∀ cs', o' = .al cs' → cs'.map (Cell.filt (hitK d)) = cs' := by
      intro j y o' d' hj hij hy ho' hd'
      have hnn : y.na.contains d = true := by
        rcases hna i j x y d cs hij hx ho e3 hy with hcc | hcc
        · have := hclo j y hj hy i hcc
          rw [hi] at this; simp at this
        · exact hcc
      obtain ⟨y', o2, d2, f1, f2, f3, _, f5, _⟩ := h j (hX j hj).1
      rw [hy] at f1; injection f1 with f1; subst f1
      rw [ho'] at f2; injection f2 with f2; subst f2
      rw [hd'] at f3; injection f3 with f3; subst f3
      cases o' with
      | val z => exact ⟨naV_mem f5.1.2.1 hnn, fun _ e => by simp at e⟩
      | cal z k2 cs2 => exact ⟨naV_mem f5.2.1 hnn, fun _ e => by simp at e⟩
      | skip => exact ⟨rfl, fun _ e => by simp at e⟩
      | al cs2 =>
        refine ⟨?_, fun cs' e => by injection e with e; subst e; exact naC_mem f5.1.2.2.2.2 hnn⟩
        have hne : d' ≠ d := fun e => (hX j hj).2 (h.inj he hy hx hd' (by rw [e]; exact e3))
        have hh : hitK d (.ptr d' 0) = false := by
          simp only [hitK, Cell.keys, Cell.places, List.contains_cons, List.contains_nil, Bool.or_false, List.any_nil, beq_eq_false_iff_ne]
          exact fun e => hne e.symm
        show SV.mk .one [Cell.filt (hitK d) (.ptr d' 0)] = _
        unfold Cell.filt
        rw [if_neg (by rw [hh]; simp)]; rfl
    have hlk : ∀ t, (look s.sl t).filt (hitK d) = look s.sl t := fun t => by
      have hC : (look (C i).sl t).filt (hitK d) = look (C i).sl t := by
        rw [← look_mapS (SV.filt (hitK d)) rfl, hh1]
      by_cases hex : ∃ j y, X j = true ∧ xs[j]? = some y ∧ y.i.dst = some t
      · obtain ⟨j, y, hj, hy, hd'⟩ := hex
        obtain ⟨y', o', d', f1, f2, f3, _⟩ := h j (hX j hj).1
        rw [hy] at f1; injection f1 with f1; subst f1
        rw [hd'] at f3; injection f3 with f3; subst f3
        rw [hs.sl j y o' t hj hy f2 hd']
        by_cases hij : i < j
        · exact (hlater j y o' t hj hij hy f2 hd').1
        · rw [hr.sl j y o' t (by have := (hX j hj).2; simp only [decide_eq_true_eq]; omega) hy f2 hd'] at hC
          exact hC
      · have h0 : look s.sl t = look (C 0).sl t := hs.sl0 t fun j y hj hy hd' => hex ⟨j, y, hj, hy, hd'⟩
        rw [h0]
        by_cases hk : ∃ j y, j < i ∧ xs[j]? = some y ∧ y.i.dst = some t
        · obtain ⟨j, y, hj, hy, hd'⟩ := hk
          rw [h.fresh0 he hy hd']; rfl
        · rw [hr.sl0 t fun j y hj hy hd' => hk ⟨j, y, by simpa using hj, hy, hd'⟩] at hC
          exact hC
    have hlr : ∀ k, (lookR s.rf k).map (fun l => l.map (Cell.filt (hitK d))) = lookR s.rf k := fun k => by
      have hC : (lookR (C i).rf k).map (fun l => l.map (Cell.filt (hitK d))) = lookR (C i).rf k := by
        rw [← lookR_mapR, hh2]
      by_cases hca : ∃ j y z cs', X j = true ∧ xs[j]? = some y ∧ os[j]? = some (Out.cal z k cs')
      · obtain ⟨j, y, z, cs', hj, hy, ho'⟩ := hca
        obtain ⟨cs2, g1, g2⟩ := h.calk he xs.length (Nat.le_refl _) j z cs' (List.getElem?_eq_some_iff.1 hy).1 ho'
        rw [hs.rfk j y z k cs' hj hy ho', g1, Option.map_some, flat_filt g2]
      by_cases hex : ∃ j y cs', X j = true ∧ xs[j]? = some y ∧ os[j]? = some (.al cs') ∧ y.i.dst = some k
      · obtain ⟨j, y, cs', hj, hy, ho', hd'⟩ := hex
        rw [hs.rf j y cs' k hj hy ho' hd']
        by_cases hij : i < j
        · rw [Option.map_some, (hlater j y _ k hj hij hy ho' hd').2 cs' rfl]
        · rw [hr.rf j y cs' k (by have := (hX j hj).2; simp only [decide_eq_true_eq]; omega) hy ho' hd'] at hC
          exact hC
      · have h0 : lookR s.rf k = lookR (C 0).rf k := hs.rf0 k (fun j y cs' hj hy ho' hd' => hex ⟨j, y, cs', hj, hy, ho', hd'⟩) (fun j y z cs' hj hy ho' => hca ⟨j, y, z, cs', hj, hy, ho'⟩)
        rw [h0]
        by_cases hk : ∃ j y cs', j < i ∧ xs[j]? = some y ∧ os[j]? = some (.al cs') ∧ y.i.dst = some k
        · obtain ⟨j, y, cs', hj, hy, ho', hd'⟩ := hk
          rw [h.fresh0R he hy ho' hd']; rfl
        · rw [hr.rf0 k (fun j y cs' hj hy ho' hd' => hk ⟨j, y, cs', by simpa using hj, hy, ho', hd'⟩) (fun j y z cs' hj hy ho' => hca ⟨j, y, z, cs', hcal j z k cs' ho', hy, ho'⟩)] at hC
          exact hC
    have hst : step noE s oi.dst x.i.op = some (allocSt s d cs) := by rw [hod, ho]; rfl
    refine run noE noE_ok _ hst ?_
    have hsl1 : ∀ t, look (allocSt s d cs).sl t = if d = t then ⟨.one, [.ptr d 0]⟩ else look s.sl t := fun t => by
      have hflt : ∀ t, look (newRef s d cs).sl t = look s.sl t := fun t => by
        show look (mapS s.sl (SV.filt (hitK d))) t = _
        rw [look_mapS (SV.filt (hitK d)) rfl]; exact hlk t
      unfold allocSt putSlot
      rw [if_neg (by rw [hflt]; simp [SV.owns, hfr])]
      simp only [look_putS, hflt]
    refine hs.put h he hx e2 e3 (by simp) ?_ hsl1 fun k => ?_
    · unfold allocSt putSlot
      rw [if_neg (by
        have : look (newRef s d cs).sl d = look s.sl d := by
          show look (mapS s.sl (SV.filt (hitK d))) d = _
          rw [look_mapS (SV.filt (hitK d)) rfl]; exact hlk d
        rw [this]; simp [SV.owns, hfr])]
      show mapS s.gh (SV.filt (hitK d)) = s.gh
      rw [hs.gh, ← hr.gh]; exact hh3
    · unfold allocSt putSlot
      rw [if_neg (by
        have : look (newRef s d cs).sl d = look s.sl d := by
          show look (mapS s.sl (SV.filt (hitK d))) d = _
          rw [look_mapS (SV.filt (hitK d)) rfl]; exact hlk d
        rw [this]; simp [SV.owns, hfr])]
      show lookR (putR (mapR s.rf (fun l => l.map (Cell.filt (hitK d)))) d (cs.map (Cell.filt (hitK d)))) k = lookR (putR s.rf d cs) k
      rw [lookR_putR, lookR_putR, hh4, lookR_mapR, hlr]
theorem Rep.sub (h : Res P xs os C) (he : EfOk xs) (hs : Rep xs os (C 0) (C xs.length).rf X s) (hcal : ∀ j y k cs, os[j]? = some (Out.cal y k cs) → X j = true) :
    (∀ t, look s.sl t = look (C xs.length).sl t ∨ look s.sl t = .undef) ∧ (∀ k, lookR s.rf k = lookR (C xs.length).rf k ∨ lookR s.rf k = none) := by
  have hr := h.rep he xs.length (Nat.le_refl _)
  refine ⟨fun t => ?_, fun k => ?_⟩
  · by_cases hex : ∃ (j : Nat) (y : XD), xs[j]? = some y ∧ y.i.dst = some t
    · obtain ⟨j, y, hy, hd⟩ := hex
      have hjl := (List.getElem?_eq_some_iff.1 hy).1
      obtain ⟨y', o', d', f1, f2, f3, _⟩ := h j hjl
      rw [hy] at f1; injection f1 with f1; subst f1
      rw [hd] at f3; injection f3 with f3; subst f3
      cases hX : X j with
      | true => left; rw [hs.sl j y o' t hX hy f2 hd, hr.sl j y o' t (by simpa using hjl) hy f2 hd]
      | false => right; exact hs.fresh h he hy hd hX
    · left
      rw [hs.sl0 t fun j y _ hy hd => hex ⟨j, y, hy, hd⟩, hr.sl0 t fun j y _ hy hd => hex ⟨j, y, hy, hd⟩]
  · by_cases hca : ∃ j y z cs', X j = true ∧ xs[j]? = some y ∧ os[j]? = some (Out.cal z k cs')
    · obtain ⟨j, y, z, cs', hj, hy, ho⟩ := hca
      exact .inl (hs.rfk j y z k cs' hj hy ho)
    by_cases hex : ∃ (j : Nat) (y : XD) (cs' : List Cell), xs[j]? = some y ∧ os[j]? = some (Out.al cs') ∧ y.i.dst = some k
    · obtain ⟨j, y, cs', hy, ho, hd⟩ := hex
      have hjl := (List.getElem?_eq_some_iff.1 hy).1
      cases hX : X j with
      | true => left; rw [hs.rf j y cs' k hX hy ho hd, hr.rf j y cs' k (by simpa using hjl) hy ho hd]
      | false =>
        right
        rw [hs.rf0 k (fun j2 y2 cs2 h1 h2 h3 h4 => by
          have := h.inj he h2 hy h4 hd
          subst this; rw [hX] at h1; simp at h1) (fun j2 y2 z cs2 h1 h2 h3 => hca ⟨j2, y2, z, cs2, h1, h2, h3⟩)]
        exact h.fresh0R he hy ho hd
    · left
      rw [hs.rf0 k (fun j y cs' _ hy ho hd => hex ⟨j, y, cs', hy, ho, hd⟩) (fun j y z cs' hj hy ho => hca ⟨j, y, z, cs', hj, hy, ho⟩),
        hr.rf0 k (fun j y cs' _ hy ho hd => hex ⟨j, y, cs', hy, ho, hd⟩) (fun j y z cs' _ hy ho => hca ⟨j, y, z, cs', hcal j z k cs' ho, hy, ho⟩)]
theorem lendE_mono {a b : St} {k : Nat} (h : a.le b) : ∀ {cs : List Cell}, lendOkE k a cs = true → argCells b [] [k] false cs = argCells a [] [k] false cs
  | [], _ => rfl
  | c :: cs, hl => by
    simp only [lendOkE, Bool.and_eq_true] at hl
    have h1 := lendE_mono h hl.2
    have hr : roCell b [] [k] c = roCell a [] [k] c := by
      cases c with
      | al p =>
        have hl1 := hl.1
        simp only [Bool.and_eq_true, Bool.not_eq_true'] at hl1
        obtain ⟨x, hx⟩ := Option.isSome_iff_exists.1 hl1.2
        simp only [roCell, hl1.1, hx, le_rows h hx]
      | own sz rows => cases rows <;> rfl
      | ptr k' o => rfl
      | undef => rfl
      | int _ _ => rfl
      | bool _ => rfl
      | str _ => rfl
      | ro _ _ => rfl
      | rptr _ => rfl
      | _ => simp at hl
    simp only [argCells, h1, hr]
theorem argsE_mono {a b : St} {k : Nat} (h : a.le b) : ∀ {args : List (Bool × XO)} , argsOkE k a (evArgs a args) = true → evArgs b args = evArgs a args ∧ callArgs b [] [k] (evArgs a args) = callArgs a [] [k] (evArgs a args) ∧
    (∀ j, allLents b j (evArgs a args) = []) ∧ (evArgs a args).all (fun x => x.2.known) = true
  | [], _ => ⟨rfl, rfl, fun _ => rfl, rfl⟩
  | (own, x) :: args, hk => by
    simp only [evArgs, List.map_cons, argsOkE, Bool.and_eq_true, Bool.not_eq_true'] at hk
    obtain ⟨⟨⟨rfl, hk2⟩, hk3⟩, hk4⟩ := hk
    obtain ⟨h1, h2, h3, h4⟩ := argsE_mono h (args := args) hk4
    have hx : evX b x = evX a x := le_known h (by intro e; simp [SV.known, e] at hk2)
    have hl : ∀ (i j : Nat) (cs : List Cell), lentsOf b i false j cs = [] := by
      intro i j cs
      induction cs generalizing j with
      | nil => rfl
      | cons c cs ih => simp only [lentsOf, ih]; rfl
    refine ⟨?_, ?_, fun j => ?_, ?_⟩
    · simp only [evArgs, List.map_cons, hx] at h1 ⊢; rw [h1]
    · simp only [evArgs, List.map_cons, callArgs] at h2 ⊢; rw [h2, lendE_mono h hk3]
    · simp only [evArgs, List.map_cons, allLents, hl] at h3 ⊢; rw [h3]; rfl
    · simp only [evArgs, List.map_cons, List.all_cons, Bool.and_eq_true] at h4 ⊢; exact ⟨hk2, h4⟩
theorem eff_sound {ops : Array Oper} {Q : Exit → Act → World → Prop} {K : Act → World → Prop} {a : Act} {w : World} {q : Nat} {x : XD} {oi : Oper} {d k : Nat} {f : FuncId} {args : List (Bool × XO)} {Kk : St → Prop} (h : Res P xs os C) (he : EfOk xs)
    (hs : Rep xs os (C 0) (C xs.length).rf X s) (hcal : ∀ j y k cs, os[j]? = some (Out.cal y k cs) → X j = true) (hle : (dropOnly x.drop (C xs.length)).le s) (hxd : x.i.dst = some d) (hg : x.i.guard = none) (hxo : x.i.op = .call f args [k]) (hfr : look s.sl d = .undef)
    (hE : dvEff P x.na d k Kk (C xs.length) (dropOnly x.drop (C xs.length)) f (evArgs (dropOnly x.drop (C xs.length)) args)) (hop : ops[q]? = some oi) (hm : mI P N ops oi x.i = true) (hS : Sit ω0 m0 N a w s)
    (hK : ∀ a' w' s' res cs', Sit ω0 m0 N a' w' s' → res.sh ≠ .no → naV x.na res → cs'.all Cell.flat = true → Kk ⟨putS (C xs.length).sl d res, putR (C xs.length).rf k cs', (C xs.length).gh⟩ → (∀ t, look s'.sl t = if d = t then res else look s.sl t) →
      (∀ j, lookR s'.rf j = if k = j then some cs' else lookR s.rf j) → s'.gh = s.gh → K a' w') : wpOp P ops Q q K a w := by
  simp only [mI, Bool.and_eq_true, decide_eq_true_eq] at hm
  obtain ⟨⟨⟨hdst, hrng⟩, hgd⟩, hmE⟩ := hm
  have hod : oi.dst = some d := by rw [hdst, hxd]
  have hd : ∀ t, oi.dst = some t → t < a.tmps.size ∧ t < KEY := fun t ht => by
    rw [ht] at hrng
    simp only [Bool.and_eq_true, decide_eq_true_eq] at hrng
    exact ⟨by rw [hS.2.1]; exact hrng.1, hrng.2⟩
  unfold wpOp
  simp only [hop]
  rw [(wanted_of hgd).1 hg, if_pos rfl]
  left
  obtain ⟨hdf, hsz, ω, rb, hR, hT⟩ := hS
  obtain ⟨hargs, ⟨n1, n2, n3⟩, hcall⟩ := hE
  obtain ⟨m1, m2, m3, m4⟩ := argsE_mono hle hargs
  obtain ⟨sub1, sub2⟩ := hs.sub h he hcal
  have hgh : s.gh = (C xs.length).gh := by rw [hs.gh, (h.rep he xs.length (Nat.le_refl _)).gh]
  cases hlk : lookR (dropOnly x.drop (C xs.length)).rf k with
  | none => rw [hlk] at hcall; exact hcall.elim
  | some cs0 =>
    rw [hlk] at hcall
    have hls : lookR s.rf k = some cs0 := hle.2.1 k cs0 hlk
    have hgo : goW P s oi.dst (fun s' => ∃ res args' rf' cs', res.fresh = true ∧ lookR rf' KEY = some cs' ∧ res.known = true ∧ naV x.na res ∧ (backCs cs0 cs').all Cell.flat = true ∧
        Kk ⟨putS (C xs.length).sl d res, putR (C xs.length).rf k (backCs cs0 cs'), (C xs.length).gh⟩ ∧ s' = putDst (afterSt s [] [k] args' rf') (some d) res) x.i.op := by
      rw [hod, hxo]
      show callW P s (some d) f (evArgs s args) [k] _
      unfold callW
      rw [m1, m3 0]
      refine ⟨?_, ?_⟩
      · rw [m4]; simp [lentsOk, rootsNodup, natsNodup, cellsNodup, List.all_nil]
      · have hcr : callRefs s 0 [k] = some [(KEY + 0, cs0.map refCell)] := by simp only [callRefs, hls]
        rw [hcr]
        show CallR P f (callArgs s [] [k] (evArgs (dropOnly x.drop (C xs.length)) args)) _ _
        rw [m2]
        refine CallR_mono (fun res args' rf' hk => ?_) hcall
        obtain ⟨g1, g2⟩ := hk
        cases hlr : lookR rf' KEY with
        | none => rw [hlr] at g2; exact g2.elim
        | some cs' =>
          rw [hlr] at g2
          refine ⟨?_, res, args', rf', cs', g1, hlr, g2.1, g2.2.1, g2.2.2.1, g2.2.2.2, rfl⟩
          rw [g1]
          simp [refsThere, hlr]
    refine goW_sound (m := ⟨a.tmps, m0.G, w, rb⟩) hR rfl hmE hd hgo _ Q fun st' a' w' ω' rb' hk h1 h2 h3 => ?_
    obtain ⟨res, args', rf', cs', g1, g2, g3, g4, g5, g6, rfl⟩ := hk
    have hS' : Sit ω0 m0 N a' w' _ := ⟨by rw [h1]; exact hdf, h3.T.trans hsz, ω', rb', h2, (Tr.tmps hT).trans ⟨h3.os, h3.tape, h3.output, h3.size, h3.fr, rfl, rfl, h3.rb⟩⟩
    have hlk1 : ∀ t, (look s.sl t).filt (hitE k) = look s.sl t := fun t => by
      rcases sub1 t with e | e
      · rw [e, ← look_mapS (SV.filt (hitE k)) rfl, n1]
      · rw [e]; rfl
    have hlk2 : ∀ j, (lookR s.rf j).map (fun l => l.map (Cell.filt (hitE k))) = lookR s.rf j := fun j => by
      rcases sub2 j with e | e
      · rw [e, ← lookR_mapR, n2]
      · rw [e]; rfl
    have hA : afterSt s [] [k] args' rf' = ⟨mapS s.sl (SV.filt (hitE k)), backR [k] rf' (mapR s.rf (fun l => l.map (Cell.filt (hitE k)))), mapS s.gh (SV.filt (hitE k))⟩ := rfl
    have hsl : ∀ t, look (mapS s.sl (SV.filt (hitE k))) t = look s.sl t := fun t => by rw [look_mapS (SV.filt (hitE k)) rfl]; exact hlk1 t
    have hput : putDst (afterSt s [] [k] args' rf') (some d) res = ⟨putS (mapS s.sl (SV.filt (hitE k))) d res, backR [k] rf' (mapR s.rf (fun l => l.map (Cell.filt (hitE k)))), mapS s.gh (SV.filt (hitE k))⟩ := by
      rw [hA]
      show putSlot _ d res = _
      unfold putSlot
      rw [if_neg (by simp only [hsl, hfr]; simp [SV.owns])]
    refine hK a' w' _ res (backCs cs0 cs') hS' (known_iff.1 g3) g4 g5 g6 (fun t => ?_) (fun j => ?_) ?_
    · rw [hput]; simp only [look_putS, hsl]
    · rw [hput]
      simp only [lookR_backR, lookR_mapR, hlk2]
      by_cases e : k = j
      · subst e
        rw [if_pos rfl, hls]
        simp [idxOf, g2]
      · rw [if_neg e]
        have : idxOf j [k] 0 = none := by simp [idxOf, e]
        rw [this]
        cases lookR s.rf j <;> rfl
    · rw [hput]
      show mapS s.gh (SV.filt (hitE k)) = s.gh
      rw [hgh]; exact n3
end
def opsL : List XD → XL
  | [] => .nil
  | x :: xs => .op x.i (opsL xs)
def clOk (os : List Oper) (all : List XD) : Bool := (List.range os.length).all fun i => match os[i]?, all[i]? with
  | some o, some x => (o.after.toList.all fun e => !Region.binds .any e || decide (e.on < i)) && x.cl.all fun j => o.after.toList.any fun e => Region.binds .any e && (e.on == j || (match all[e.on]? with
    | some y => y.cl.contains j
    | none => false))
  | _, _ => false
def tailOk (all : List XD) (nv : Nat) : Bool := (List.range all.length).all fun k => decide (k < nv) || (match all[k]? with
  | some x => x.i.guard.isNone && (List.range k).all fun j => x.cl.contains j
  | none => false)
def naOk (xs : List XD) : Bool := (List.range xs.length).all fun i => match xs[i]? with
  | some x => (match x.i.op with
    | .alloc _ => (match x.i.dst with
      | some d => (List.range xs.length).all fun j => decide (j ≤ i) || (match xs[j]? with
        | some y => y.cl.contains i || y.na.contains d
        | none => false)
      | none => false)
    | _ => true)
  | none => false
theorem clOk_spec {os : List Oper} {all : List XD} (h : clOk os all = true) {i : Nat} {o : Oper} (ho : os[i]? = some o) : ∃ x, all[i]? = some x ∧ (∀ e ∈ o.after, Region.binds .any e = true → e.on < i) ∧
    ∀ j, x.cl.contains j = true → ∃ e ∈ o.after, Region.binds .any e = true ∧ (e.on = j ∨ ∃ y, all[e.on]? = some y ∧ y.cl.contains j = true) := by
  unfold clOk at h
  rw [List.all_eq_true] at h
  have h1 := h i (by simpa using (List.getElem?_eq_some_iff.1 ho).1)
  rw [ho] at h1
  cases hx : all[i]? with
  | none => rw [hx] at h1; simp at h1
  | some x =>
    rw [hx] at h1
    simp only [Bool.and_eq_true, List.all_eq_true] at h1
    refine ⟨x, rfl, fun e he hb => by have := h1.1 e (Array.mem_toList_iff.2 he); rw [hb] at this; simpa using this, fun j hj => ?_⟩
    have h2 := h1.2 j (by simpa using hj)
    rw [List.any_eq_true] at h2
    obtain ⟨e, he, hb⟩ := h2
    simp only [Bool.and_eq_true, Bool.or_eq_true, beq_iff_eq] at hb
    refine ⟨e, Array.mem_toList_iff.1 he, hb.1, ?_⟩
    rcases hb.2 with h3 | h3
    · exact .inl h3
    · right
      split at h3
      · rename_i y hy; exact ⟨y, hy, h3⟩
      · simp at h3
theorem tailOk_spec {all : List XD} {nv : Nat} (h : tailOk all nv = true) {k : Nat} {x : XD} (hk : nv ≤ k) (hx : all[k]? = some x) : x.i.guard = none ∧ ∀ j, j < k → x.cl.contains j = true := by
  unfold tailOk at h
  rw [List.all_eq_true] at h
  have h1 := h k (by simpa using (List.getElem?_eq_some_iff.1 hx).1)
  rw [hx] at h1
  simp only [Bool.or_eq_true, decide_eq_true_eq, Bool.and_eq_true, List.all_eq_true] at h1
  rcases h1 with h1 | h1
  · omega
  · exact ⟨by simpa using h1.1, fun j hj => h1.2 j (by simpa using hj)⟩
theorem naOk_spec {xs : List XD} (h : naOk xs = true) : ∀ (i j : Nat) (x y : XD) (d : Nat) (cs : List Cell), i < j → xs[i]? = some x → x.i.op = .alloc cs → x.i.dst = some d → xs[j]? = some y → y.cl.contains i = true ∨ y.na.contains d = true := by
  intro i j x y d cs hij hx hop hd hy
  unfold naOk at h
  rw [List.all_eq_true] at h
  have h1 := h i (by simpa using (List.getElem?_eq_some_iff.1 hx).1)
  simp only [hx, hop, hd, List.all_eq_true] at h1
  have h2 := h1 j (by simpa using (List.getElem?_eq_some_iff.1 hy).1)
  simp only [hy, Bool.or_eq_true, decide_eq_true_eq] at h2
  rcases h2 with h2 | h2
  · omega
  · exact h2
def efChk (xs : List XD) : Bool := (List.range xs.length).all fun i => match xs[i]? with
  | some x => (match x.ef with
    | some k => (List.range xs.length).all fun j => match xs[j]? with
      | some y => (match y.i.op with
        | .alloc _ => !decide (y.i.dst = some k)
        | _ => true) && (decide (j ≤ i) || y.cl.contains i) && (decide (i ≤ j) || x.cl.contains j || y.drop.contains k)
      | none => true
    | none => true)
  | none => true
theorem efChk_spec {xs : List XD} (h : efChk xs = true) {i j : Nat} {x y : XD} {k : Nat} (hx : xs[i]? = some x) (hk : x.ef = some k) (hy : xs[j]? = some y) :
    (∀ cs, y.i.op = .alloc cs → y.i.dst ≠ some k) ∧ (i < j → y.cl.contains i = true) ∧ (j < i → x.cl.contains j = true ∨ y.drop.contains k = true) := by
  unfold efChk at h
  rw [List.all_eq_true] at h
  have h1 := h i (by simpa using (List.getElem?_eq_some_iff.1 hx).1)
  simp only [hx, hk, List.all_eq_true] at h1
  have h2 := h1 j (by simpa using (List.getElem?_eq_some_iff.1 hy).1)
  simp only [hy, Bool.and_eq_true, Bool.or_eq_true, decide_eq_true_eq] at h2
  obtain ⟨⟨h3, h4⟩, h5⟩ := h2
  refine ⟨fun cs hop => by rw [hop] at h3; simpa using h3, fun hij => ?_, fun hji => ?_⟩
  · rcases h4 with h4 | h4
    · omega
    · exact h4
  · rcases h5 with (h5 | h5) | h5
    · omega
    · exact .inl h5
    · exact .inr h5
theorem take_get {xs : List XD} {m i : Nat} {x : XD} : (xs.take m)[i]? = some x ↔ i < m ∧ xs[i]? = some x := by
  rw [List.getElem?_take]
  split
  · rename_i h; simp [h]
  · rename_i h; simp [h]
theorem efChk_ok {xs : List XD} (h : efChk xs = true) (m : Nat) : EfOk (xs.take m) := fun i j x y k cs hx hk hy hop =>
  (efChk_spec h (take_get.1 hx).2 hk (take_get.1 hy).2).1 cs hop
theorem Res.join {P : Program} {vs : List XD} {os os2 : List Out} {C C2 : Nat → St} {m m2 : Nat} (h : Res P (vs.take m) os C) (hl : os.length = m) {x : XD} {o : Out} {d : Nat} (hx : vs[m]? = some x) (hd : x.i.dst = some d)
    (hfr : look (C m).sl d = .undef) (ho : okOut P x d (C m) o) (h2 : Res P ((vs.drop (m + 1)).take m2) os2 C2) (h20 : C2 0 = outPut (C m) d o) (hm2 : m2 ≤ (vs.drop (m + 1)).length) :
    Res P (vs.take (m + 1 + m2)) (os ++ o :: os2) (fun i => if i ≤ m then C i else C2 (i - m - 1)) := by
  have hml := (List.getElem?_eq_some_iff.1 hx).1
  intro i hi
  rw [List.length_take] at hi
  rcases Nat.lt_trichotomy i m with hlt | heq | hgt
  · obtain ⟨x', o', d', e1, e2, e3, e4, e5, e6⟩ := h i (by rw [List.length_take]; omega)
    refine ⟨x', o', d', take_get.2 ⟨by omega, (take_get.1 e1).2⟩, by rw [List.getElem?_append_left (by omega)]; exact e2, e3, ?_, ?_, ?_⟩
    · simp only [if_pos (show i ≤ m by omega)]; exact e4
    · simp only [if_pos (show i ≤ m by omega)]; exact e5
    · simp only [if_pos (show i ≤ m by omega), if_pos (show i + 1 ≤ m by omega)]; exact e6
  · subst heq
    refine ⟨x, o, d, take_get.2 ⟨by omega, hx⟩, by rw [List.getElem?_append_right (by omega), hl]; simp, hd, ?_, ?_, ?_⟩
    · simp only [if_pos (Nat.le_refl _)]; exact hfr
    · simp only [if_pos (Nat.le_refl _)]; exact ho
    · simp only [if_pos (Nat.le_refl _), if_neg (show ¬ i + 1 ≤ i by omega), show i + 1 - i - 1 = 0 by omega]; exact h20
  · obtain ⟨x', o', d', e1, e2, e3, e4, e5, e6⟩ := h2 (i - m - 1) (by rw [List.length_take]; omega)
    have e1' := (take_get.1 e1).2
    rw [List.getElem?_drop] at e1'
    refine ⟨x', o', d', take_get.2 ⟨by omega, by rw [← e1']; congr 1; omega⟩, ?_, e3, ?_, ?_, ?_⟩
    · rw [List.getElem?_append_right (by omega), hl, show i - m = (i - m - 1) + 1 by omega, List.getElem?_cons_succ]; exact e2
    · simp only [if_neg (show ¬ i ≤ m by omega)]; exact e4
    · simp only [if_neg (show ¬ i ≤ m by omega)]; exact e5
    · simp only [if_neg (show ¬ i ≤ m by omega), if_neg (show ¬ i + 1 ≤ m by omega), show i + 1 - m - 1 = i - m - 1 + 1 by omega]; exact e6
def Closed (all : List XD) (X : Nat → Bool) : Prop := ∀ i x, X i = true → all[i]? = some x → ∀ j, x.cl.contains j = true → X j = true
section
variable {P : Program} {ω0 : Nat → Lab} {m0 : Mc} {N : Nat} {ops : Array Oper} {Q : Exit → Act → World → Prop} {all : List XD}
theorem getD_tf {l : Array Bool} {i : Nat} (hi : i < l.size) : l.getD i true = l.getD i false := by simp [Array.getD, hi]
theorem ready_cl (hcl : clOk ops.toList all = true) {listed : Array Bool} (hc : Closed all fun j => listed.getD j false) {i : Nat} {x : XD} (hr : i ∈ Region.ready .any ops listed) (hx : all[i]? = some x) :
    ∀ j, x.cl.contains j = true → listed.getD j false = true := by
  obtain ⟨h0, o, ho, hall⟩ := mem_ready.1 hr
  obtain ⟨x', hx', _, h2⟩ := clOk_spec hcl (i := i) (o := o) (by simpa using ho)
  rw [hx] at hx'; injection hx' with hx'; subst hx'
  intro j hj
  obtain ⟨e, he, hb, h3⟩ := h2 j hj
  have h4 := hall e he hb
  rcases h3 with rfl | ⟨y, hy, hyj⟩
  · exact h4
  · exact hc e.on y h4 hy j hyj
theorem ready_first (hcl : clOk ops.toList all = true) {listed : Array Bool} {k : Nat} (hk : k < ops.size) (hsz : listed.size = ops.size) (hun : listed.getD k false = false) (hbelow : ∀ j, j < k → listed.getD j false = true) : k ∈ Region.ready .any ops listed := by
  have ho : ops[k]? = some ops[k] := Array.getElem?_eq_getElem hk
  obtain ⟨x, _, h1, _⟩ := clOk_spec hcl (i := k) (o := ops[k]) (by simp)
  exact mem_ready.2 ⟨by rw [getD_tf (by omega)]; exact hun, _, ho, fun e he hb => hbelow _ (h1 e he hb)⟩
theorem getD_set {l : Array Bool} {i j : Nat} (hi : i < l.size) : (l.setIfInBounds i true).getD j false = (l.getD j false || decide (j = i)) := by
  by_cases e : j = i
  · subst e; simp [hi]
  · rw [getD_set_ne false (Ne.symm e)]; simp [e]
theorem tail_sound {K : St → Prop} {nv : Nat} (hm : mIs P N ops ops.toList (all.map (·.i)) = true) (hcl : clOk ops.toList all = true) (htl : tailOk all nv = true) (hQ : ∀ a w st, Sit ω0 m0 N a w st → K st → Q .normal a w) :
    ∀ (fuel k : Nat) (listed : Array Bool) (st : St) (a : Act) (w : World), fuel + k = all.length → nv ≤ k → listed.size = all.length → (∀ j, j < all.length → listed.getD j false = decide (j < k)) → Sit ω0 m0 N a w st → WI P (opsL (all.drop k)) K st →
      wpAny P .any ops Q fuel listed a w := by
  have hsz : ops.size = all.length := by have := mIs_len hm; simpa using this
  intro fuel
  induction fuel with
  | zero =>
    intro k listed st a w hf hk hls hl hS hW
    have hkn : k = all.length := by omega
    subst hkn
    refine ⟨?_, ?_⟩
    · cases hr : Region.ready .any ops listed with
      | nil => rfl
      | cons i l =>
        have hi : i ∈ Region.ready .any ops listed := by rw [hr]; simp
        obtain ⟨h0, o, ho, _⟩ := mem_ready.1 hi
        have hlt : i < all.length := by rw [← hsz]; exact (Array.getElem?_eq_some_iff.1 ho).1
        rw [getD_tf (by omega), hl i hlt] at h0
        simp [hlt] at h0
    · rw [List.drop_length] at hW
      exact hQ a w st hS hW
  | succ fuel ih =>
    intro k listed st a w hf hk hls hl hS hW
    have hkn : k < all.length := by omega
    have hkr : k ∈ Region.ready .any ops listed := ready_first hcl (by omega) (by omega) (by rw [hl k hkn]; simp) fun j hj => by rw [hl j (by omega)]; simpa using hj
    refine ⟨fun h0 => (by rw [h0] at hkr; cases hkr), fun i hi => ?_⟩
    obtain ⟨h0, o, ho, _⟩ := mem_ready.1 hi
    have hlt : i < all.length := by rw [← hsz]; exact (Array.getElem?_eq_some_iff.1 ho).1
    have hik : k ≤ i := by
      rw [getD_tf (by omega), hl i hlt] at h0
      simpa using h0
    have hxi : all[i]? = some all[i] := List.getElem?_eq_getElem hlt
    have hc : Closed all fun j => listed.getD j false := fun j y hj hy j' hj' => by
      obtain ⟨y', hy', h1, h2⟩ := clOk_spec hcl (i := j) (o := ops[j]'(by have := (List.getElem?_eq_some_iff.1 hy).1; omega)) (by simp)
      rw [hy] at hy'; injection hy' with hy'; subst hy'
      have hjl := (List.getElem?_eq_some_iff.1 hy).1
      simp only [hl j hjl, decide_eq_true_eq] at hj
      have hj'' : j' < j := by
        clear hW hS
        induction j using Nat.strongRecOn generalizing y with
        | _ j ihj =>
          obtain ⟨e, he, hb, h3⟩ := h2 j' hj'
          have := h1 e he hb
          rcases h3 with rfl | ⟨z, hz, hzj⟩
          · exact this
          · have hel := (List.getElem?_eq_some_iff.1 hz).1
            obtain ⟨z', hz', g1, g2⟩ := clOk_spec hcl (i := e.on) (o := ops[e.on]'(by omega)) (by simp)
            rw [hz] at hz'; injection hz' with hz'; subst hz'
            have := ihj e.on (by omega) z hz hzj g1 g2 (List.getElem?_eq_some_iff.1 hz).1 (by omega)
            omega
      show listed.getD j' false = true
      rw [hl j' (by omega)]; simp only [decide_eq_true_eq]; omega
    have hcli := ready_cl hcl hc hi hxi
    have hii : i = k := by
      apply Nat.le_antisymm _ hik
      apply Nat.le_of_not_lt
      intro hlt'
      have := hcli k ((tailOk_spec htl (by omega) hxi).2 k hlt')
      rw [hl k hkn] at this
      simp at this
    subst hii
    have hxk : all.drop i = all[i] :: all.drop (i + 1) := List.drop_eq_getElem_cons hlt
    rw [hxk] at hW
    simp only [opsL, WI] at hW
    have hg := (tailOk_spec htl hk hxi).1
    rw [hg] at hW
    simp only at hW
    obtain ⟨o', ho', hmI⟩ := mIs_get (i := i) (x := all[i].i) hm (by rw [List.getElem?_map, hxi]; rfl)
    have : o' = o := by
      have : ops[i]? = some o' := by simpa using ho'
      rw [ho] at this; injection this with this; exact this.symm
    subst this
    unfold wpOp
    simp only [ho]
    simp only [mI, Bool.and_eq_true, decide_eq_true_eq] at hmI
    obtain ⟨⟨⟨hdst, hrng⟩, hgd⟩, hmE⟩ := hmI
    rw [(wanted_of hgd).1 hg, if_pos rfl]
    left
    have hd : ∀ t, o'.dst = some t → t < a.tmps.size ∧ t < KEY := fun t ht => by
      rw [ht] at hrng
      simp only [Bool.and_eq_true, decide_eq_true_eq] at hrng
      exact ⟨by rw [hS.2.1]; exact hrng.1, hrng.2⟩
    obtain ⟨hdf, hsz', ω, rb, hR, hT⟩ := hS
    unfold goK at hW
    rw [← hdst] at hW
    refine goW_sound (m := ⟨a.tmps, m0.G, w, rb⟩) hR rfl hmE hd hW _ Q fun st' a' w' ω' rb' hk' h1 h2 h3 => ?_
    have hS' : Sit ω0 m0 N a' w' st' := ⟨by rw [h1]; exact hdf, h3.T.trans hsz', ω', rb', h2,
      (Tr.tmps hT).trans ⟨h3.os, h3.tape, h3.output, h3.size, h3.fr, rfl, rfl, h3.rb⟩⟩
    refine ih (i + 1) _ _ a' w' (by omega) (by omega) (by simpa using hls) (fun j hj => ?_) (hS'.killR _) hk'
    rw [getD_set (by omega), hl j hj]
    by_cases e : j = i
    · subst e; simp
    · simp only [e, decide_false, Bool.or_false]
      congr 1
      exact propext ⟨fun h => by omega, fun h => by omega⟩
theorem countP_set {X : Nat → Bool} {i : Nat} (hi : X i = false) : ∀ n, (List.range n).countP (fun j => X j || decide (j = i)) = (List.range n).countP X + (if i < n then 1 else 0)
  | 0 => by simp
  | n + 1 => by
    rw [List.range_succ, List.countP_append, List.countP_append, countP_set hi n]
    simp only [List.countP_cons, List.countP_nil, Nat.zero_add]
    by_cases e : n = i
    · subst e; simp [hi]
    · have : (i < n + 1) = (i < n) := propext ⟨fun h => by omega, fun h => by omega⟩
      simp only [this, e, decide_false, Bool.or_false]
      omega
theorem countP_lt {X : Nat → Bool} {i : Nat} (hi : X i = false) {n : Nat} (hn : i < n) : (List.range n).countP X < n := by
  have := countP_set hi n
  rw [if_pos hn] at this
  have h2 := List.countP_le_length (p := fun j => X j || decide (j = i)) (l := List.range n)
  rw [List.length_range] at h2
  omega
noncomputable def runS : List XD → St → Option St
  | [], st => some st
  | x :: xs, st => (step noE st x.i.dst x.i.op).bind (runS xs)
def pick (us : List XD) : List Nat → List XD
  | [] => []
  | r :: rs => match us[r]? with
    | some x => x :: pick us rs
    | none => pick us rs
def sameS (us : List XD) (st s2 : St) : List (List Nat) → Prop
  | [] => True
  | p :: ps => runS (pick us p) st = some s2 ∧ sameS us st s2 ps
def WU (us : List XD) (ords : List (List Nat)) (K : St → Prop) (st : St) : Prop := match us with
  | [] => K st
  | _ :: _ => Opt (runS us st) fun s2 => sameS us st s2 ords ∧ K s2
theorem sameS_mem {us : List XD} {st s2 : St} : ∀ {ords : List (List Nat)} {p : List Nat}, sameS us st s2 ords → p ∈ ords → runS (pick us p) st = some s2
  | q :: qs, p, h, hp => by
    rcases List.mem_cons.1 hp with rfl | hp
    · exact h.1
    · exact sameS_mem h.2 hp
theorem runS_append {xs ys : List XD} : ∀ {st : St}, runS (xs ++ ys) st = (runS xs st).bind (runS ys) := by
  induction xs with
  | nil => intro st; rfl
  | cons x xs ih =>
    intro st
    simp only [List.cons_append, runS]
    cases step noE st x.i.dst x.i.op with
    | none => rfl
    | some s => simp only [Option.bind_some]; exact ih
theorem pick_append {us : List XD} : ∀ (p q : List Nat), pick us (p ++ q) = pick us p ++ pick us q
  | [], q => rfl
  | r :: p, q => by
    simp only [List.cons_append, pick, pick_append p q]
    cases us[r]? <;> rfl
def ordsOk (nv : Nat) (us : List XD) (ords : List (List Nat)) : Bool := ords.all (fun p => decide (p.length = us.length) && p.all (fun r => decide (r < us.length)) && (List.range us.length).all fun r => p.contains r) && !ords.isEmpty &&
  ords.all fun p => (List.range us.length).all fun n => (List.range us.length).all fun r => (p.take n).contains r || (match us[r]? with
    | some x => x.cl.any fun j => decide (nv ≤ j) && !(p.take n).contains (j - nv)
    | none => false) || ords.any fun p' => decide (p'.take (n + 1) = p.take n ++ [r])
def isQ : XOp → Bool
  | .mv _ => true
  | .ext _ _ => true
  | _ => false
def usOk (all : List XD) (nv nf n1 : Nat) : Bool := (List.range all.length).all fun k => decide (k < nv) || (match all[k]? with
  | some x => x.i.guard.isNone && x.i.kill.isEmpty && x.ef.isNone && (if k < nf then isQ x.i.op else (List.range nv).all fun j => x.cl.contains j)
  | none => false) || decide (n1 ≤ k)
theorem any_sound {K : St → Prop} {vs ts : List XD} (hall : all = vs ++ ts) (hm : mIs P N ops ops.toList (all.map (·.i)) = true) (hcl : clOk ops.toList all = true) {nv : Nat} (hnv : nv ≤ vs.length) (hefn : ∀ (i : Nat) (x : XD) (k : Nat), vs[i]? = some x → x.ef = some k → i < nv) (htl : ∀ (k : Nat) (x : XD), vs.length ≤ k → all[k]? = some x → ∀ j, j < nv → x.cl.contains j = true) (hdr : dropOk vs = true) (hal : naOk vs = true) (hef : efChk vs = true)
    (hT : ∀ (fuel : Nat) (listed : Array Bool) (s : St) (a : Act) (w : World) (os : List Out) (C : Nat → St), os.length = vs.length → Res P vs os C → K (C vs.length) → (∀ j y k cs, os[j]? = some (Out.cal y k cs) → listed.getD j false = true) → (∀ j y k cs, os[j]? = some (Out.cal y k cs) → j < nv) →
      fuel + (List.range all.length).countP (fun j => listed.getD j false) = all.length → listed.size = all.length → Closed all (fun j => listed.getD j false) → (∀ j, vs.length ≤ j → listed.getD j false = false) → (∀ j, j < nv → listed.getD j false = true) → Sit ω0 m0 N a w s → Rep vs os (C 0) (C vs.length).rf (fun j => listed.getD j false) s → wpAny P .any ops Q fuel listed a w) :
    ∀ (fuel : Nat) (listed : Array Bool) (s : St) (a : Act) (w : World) (m : Nat) (os : List Out) (C : Nat → St), m ≤ vs.length → os.length = m → Res P (vs.take m) os C → DV P (vs.drop m) K (C m) → (m < vs.length → ∃ x k, vs[m]? = some x ∧ x.ef = some k) →
      (∀ j y k cs, os[j]? = some (Out.cal y k cs) → listed.getD j false = true) → fuel + (List.range all.length).countP (fun j => listed.getD j false) = all.length → listed.size = all.length → Closed all (fun j => listed.getD j false) →
      (∀ j, m ≤ j → listed.getD j false = false) → Sit ω0 m0 N a w s → Rep (vs.take m) os (C 0) (C m).rf (fun j => listed.getD j false) s → wpAny P .any ops Q fuel listed a w := by
  have hsz : ops.size = all.length := by have := mIs_len hm; simpa using this
  have hxl : vs.length ≤ all.length := by rw [hall]; simp
  have hget : ∀ i, i < vs.length → all[i]? = vs[i]? := fun i hi => by rw [hall, List.getElem?_append_left hi]
  intro fuel
  induction fuel with
  | zero =>
    intro listed s a w m os C hmv hol h hDV hstop hcal hf hls hc hlast hS hR
    by_cases hv : ∀ i, i < nv → listed.getD i false = true
    · have hme : m = vs.length := by
        apply Nat.le_antisymm hmv
        apply Nat.le_of_not_lt
        intro hlt
        obtain ⟨x, k, hx, hk⟩ := hstop hlt
        have := hv m (hefn m x k hx hk)
        rw [hlast m (Nat.le_refl _)] at this; simp at this
      subst hme
      rw [List.take_length] at h hR
      rw [List.drop_length] at hDV
      refine hT _ listed s a w os C hol h hDV hcal (fun j y k cs ho => ?_) hf hls hc hlast hv hS hR
      obtain ⟨x, o, d, e1, e2, e3, _, e5, _⟩ := h j (by have := (List.getElem?_eq_some_iff.1 ho).1; omega)
      rw [ho] at e2; injection e2 with e2; subst e2
      exact hefn j x k e1 e5.2.2.2
    · exfalso
      have : ∃ i, i < nv ∧ listed.getD i false = false := by
        apply Classical.byContradiction
        intro hno
        apply hv
        intro i hi
        cases hb : listed.getD i false with
        | true => rfl
        | false => exact absurd ⟨i, hi, hb⟩ hno
      obtain ⟨i, hi, hb⟩ := this
      have := countP_lt (X := fun j => listed.getD j false) hb (n := all.length) (by omega)
      omega
  | succ fuel ih =>
    intro listed s a w m os C hmv hol h hDV hstop hcal hf hls hc hlast hS hR
    by_cases hv : ∀ i, i < nv → listed.getD i false = true
    · have hme : m = vs.length := by
        apply Nat.le_antisymm hmv
        apply Nat.le_of_not_lt
        intro hlt
        obtain ⟨x, k, hx, hk⟩ := hstop hlt
        have := hv m (hefn m x k hx hk)
        rw [hlast m (Nat.le_refl _)] at this; simp at this
      subst hme
      rw [List.take_length] at h hR
      rw [List.drop_length] at hDV
      refine hT _ listed s a w os C hol h hDV hcal (fun j y k cs ho => ?_) hf hls hc hlast hv hS hR
      obtain ⟨x, o, d, e1, e2, e3, _, e5, _⟩ := h j (by have := (List.getElem?_eq_some_iff.1 ho).1; omega)
      rw [ho] at e2; injection e2 with e2; subst e2
      exact hefn j x k e1 e5.2.2.2
    · have hex : ∃ i, i < nv ∧ listed.getD i false = false ∧ ∀ j, j < i → listed.getD j false = true := by
        apply Classical.byContradiction
        intro hno
        apply hv
        intro i
        induction i using Nat.strongRecOn with
        | _ i ihi =>
          intro hi
          cases hb : listed.getD i false with
          | true => rfl
          | false => exact absurd ⟨i, hi, hb, fun j hj => ihi j hj (by omega)⟩ hno
      obtain ⟨i0, hi0, hb0, hbel⟩ := hex
      have hr0 : i0 ∈ Region.ready .any ops listed := ready_first hcl (by omega) (by omega) hb0 hbel
      refine ⟨fun h0 => (by rw [h0] at hr0; cases hr0), fun i hi => ?_⟩
      obtain ⟨h0, oi, hoi, _⟩ := mem_ready.1 hi
      have hlt : i < all.length := by rw [← hsz]; exact (Array.getElem?_eq_some_iff.1 hoi).1
      have hun : listed.getD i false = false := by rw [← getD_tf (by omega)]; exact h0
      have hxi : all[i]? = some all[i] := List.getElem?_eq_getElem hlt
      have hcli := ready_cl hcl hc hi hxi
      have hiv : i < vs.length := by
        apply Nat.lt_of_not_le
        intro hle
        have := hcli i0 (htl i _ hle hxi i0 hi0)
        rw [hb0] at this; simp at this
      have hxx : vs[i]? = some all[i] := by rw [← hget i hiv]; exact hxi
      obtain ⟨o', ho', hmI⟩ := mIs_get (i := i) (x := all[i].i) hm (by rw [List.getElem?_map, hxi]; rfl)
      have : o' = oi := by
        have : ops[i]? = some o' := by simpa using ho'
        rw [hoi] at this; injection this with this; exact this.symm
      subst this
      have he := efChk_ok hef m
      have hlen : (vs.take m).length = m := by rw [List.length_take]; omega
      have hX : (fun j => (listed.setIfInBounds i true).getD j false) = fun j => listed.getD j false || decide (j = i) := funext fun j => getD_set (by omega)
      have hcX : Closed all (fun j => (listed.setIfInBounds i true).getD j false) := by
        rw [hX]
        intro j y hj hy j' hj'
        simp only [Bool.or_eq_true, decide_eq_true_eq] at hj ⊢
        rcases hj with hj | rfl
        · exact .inl (hc j y hj hy j' hj')
        · rw [hxi] at hy; injection hy with hy; subst hy
          exact .inl (hcli j' hj')
      have hfX : fuel + (List.range all.length).countP (fun j => (listed.setIfInBounds i true).getD j false) = all.length := by
        rw [hX]
        have := countP_set (X := fun j => listed.getD j false) hun all.length
        rw [this, if_pos hlt]; omega
      have hR2 : Rep (vs.take m) os (C 0) (C (vs.take m).length).rf (fun j => listed.getD j false) s := by rw [hlen]; exact hR
      rcases Nat.lt_trichotomy i m with him | him | him
      · -- an operation ahead of the next call
        have hx : (vs.take m)[i]? = some all[i] := take_get.2 ⟨him, hxx⟩
        have hle := hR2.le h he hcal (i := i) (x := all[i]) (by omega) (fun j y d hj hy hd => dropOk_spec hdr hxx hj (take_get.1 hy).2 hd) hcli (fun j z k cs hij hj ho => by
          obtain ⟨y, o2, d2, f1, f2, f3, _, f5, _⟩ := h j hj
          rw [ho] at f2; injection f2 with f2; subst f2
          have hLj := hcal j z k cs ho
          have hne : i ≠ j := fun e => by subst e; rw [hun] at hLj; simp at hLj
          have fy := (take_get.1 f1).2
          rcases (efChk_spec hef fy f5.2.2.2 hxx).2.2 (by omega) with hc1 | hc1
          · have this : listed.getD i false = true := hc j y hLj (by rw [hget j (by omega)]; exact fy) i hc1
            rw [hun] at this; simp at this
          · exact hc1)
        refine exec_sound h he hR2 hcal hx hle hun (fun j hj => hlast j (by omega)) (fun j y hj hy k hk => hc j y hj (by rw [hget j (by have := (List.getElem?_eq_some_iff.1 (take_get.1 hy).2).1; exact this)]; exact (take_get.1 hy).2) k hk)
          (fun i j x y d cs hij hx hop hd hy => naOk_spec hal i j x y d cs hij (take_get.1 hx).2 hop hd (take_get.1 hy).2) hoi hmI hS fun a' w' s' hS' hR' => ?_
        refine ih _ s' a' w' m os C hmv hol h hDV hstop (fun j y k cs ho => ?_) hfX (by simpa using hls) hcX (fun j hj => ?_) hS' (by rw [hX, ← hlen]; simpa only [hlen] using hR')
        · rw [getD_set (by omega), hcal j y k cs ho]; rfl
        · rw [getD_set (by omega), hlast j hj]
          have : j ≠ i := by omega
          simp [this]
      · -- the call
        subst him
        obtain ⟨x, k, hx, hk⟩ := hstop hiv
        rw [hxx] at hx; injection hx with hx; subst hx
        have hdrop : vs.drop i = all[i] :: vs.drop (i + 1) := by
          have := List.drop_eq_getElem_cons hiv
          rw [this]
          congr 1
          have e := List.getElem?_eq_getElem hiv
          rw [hxx] at e; injection e with e; exact e.symm
        rw [hdrop] at hDV
        simp only [DV, hk] at hDV
        split at hDV
        · rename_i d hd
          obtain ⟨habs, hE⟩ := hDV
          have hfrC : look (C i).sl d = .undef := by
            generalize look (C i).sl d = v at habs
            obtain ⟨sh, cs⟩ := v
            cases sh <;> cases cs <;> simp [SV.absent] at habs <;> rfl
          unfold dvEf at hE
          split at hE
          · rename_i f args k' hg hop
            obtain ⟨rfl, hE⟩ := hE
            have hle := hR2.le h he hcal (i := (vs.take i).length) (x := all[i]) (Nat.le_refl _) (fun j y d hj hy hd => dropOk_spec hdr hxx (by omega) (take_get.1 hy).2 hd) hcli (fun j z k cs hij hj ho => by omega)
            have hsub := hR2.sub h he hcal
            have hfr : look s.sl d = .undef := by
              rcases hsub.1 d with e | e
              · rw [e, hlen]; exact hfrC
              · exact e
            refine eff_sound h he hR2 hcal hle hd hg hop hfr (by rw [hlen]; exact hE) hoi hmI hS fun a' w' s' res cs' hS' g1 g2 g3 g4 g5 g6 g7 => ?_
            rw [hlen] at g4
            obtain ⟨m2, os2, C2, q0, q1, q2, q3, q4, q5, q6⟩ := DV_res _ _ _ g4
            have hres := Res.join h hol hxx hd hfrC (o := .cal res k' cs') ⟨g1, g2, g3, hk⟩ q3 q2 q0
            rw [List.length_drop] at q0 q6
            generalize hCn : (fun j => if j ≤ i then C j else C2 (j - i - 1)) = Cn at hres
            have hC0 : Cn 0 = C 0 := by rw [← hCn]; simp
            have hCm : Cn (i + 1 + m2) = C2 m2 := by
              rw [← hCn]; simp only [if_neg (show ¬ i + 1 + m2 ≤ i by omega)]; congr 1; omega
            have hCi : Cn i = C i := by rw [← hCn]; simp
            have hCi1 : Cn (i + 1) = C2 0 := by
              rw [← hCn]; simp only [if_neg (show ¬ i + 1 ≤ i by omega)]; congr 1; omega
            have he2 := efChk_ok hef (i + 1 + m2)
            have hlen2 : (vs.take (i + 1 + m2)).length = i + 1 + m2 := by rw [List.length_take]; omega
            have hosl : ∀ j, j < i → (os ++ Out.cal res k' cs' :: os2)[j]? = os[j]? := fun j hj => List.getElem?_append_left (by omega)
            have hosi : (os ++ Out.cal res k' cs' :: os2)[i]? = some (Out.cal res k' cs') := by rw [List.getElem?_append_right (by omega), hol]; simp
            have hosg : ∀ j, i < j → (os ++ Out.cal res k' cs' :: os2)[j]? = os2[j - i - 1]? := fun j hj => by
              obtain ⟨e, rfl⟩ : ∃ e, j = i + 1 + e := ⟨j - i - 1, by omega⟩
              rw [List.getElem?_append_right (by omega), hol, show i + 1 + e - i = e + 1 by omega, List.getElem?_cons_succ]
              congr 1
            have hnoal : ∀ (j : Nat) (y : XD) (cs : List Cell) (kk : Nat) (e : Nat) (z : XD), vs[e]? = some z → z.ef = some kk → j < i + 1 + m2 → (vs.take (i + 1 + m2))[j]? = some y → (os ++ Out.cal res k' cs' :: os2)[j]? = some (Out.al cs) → y.i.dst ≠ some kk := by
              intro j y cs kk e z hz hzk hj hy ho
              obtain ⟨y', o3, d3, r1, r2, r3, _, r5, _⟩ := hres j (by rw [hlen2]; exact hj)
              rw [hy] at r1; injection r1 with r1; subst r1
              rw [ho] at r2; injection r2 with r2; subst r2
              exact (efChk_spec hef hz hzk (take_get.1 hy).2).1 cs r5.1.1
            have hk1 : lookR (C2 m2).rf k' = some cs' := by
              have := hres.refeq (k := k') (i := i + 1) (i + 1 + m2) (by omega) (by omega) (fun j y cs h1 h2 h3 => by
                rw [hosg j (by omega)] at h3
                exact q5 _ _ h3 _ _ _ rfl) (fun j y cs h1 h2 h3 h4 => hnoal j y cs k' i _ hxx hk h2 h3 h4)
              rw [hCm, hCi1, q2] at this
              rw [this]; simp [lookR_putR]
            refine ih _ s' a' w' (i + 1 + m2) _ Cn (by omega) (by simp [hol, q1]; omega) hres (by rw [hCm]; rw [List.drop_drop] at q4; exact q4) (fun hlt2 => ?_) (fun j y k cs ho => ?_) hfX (by simpa using hls) hcX (fun j hj => ?_) hS' ?_
            · obtain ⟨y, kk, e1, e2⟩ := q6 (by omega)
              rw [List.getElem?_drop] at e1
              exact ⟨y, kk, e1, e2⟩
            · rw [getD_set (by omega)]
              rcases Nat.lt_trichotomy j i with hji | hji | hji
              · rw [hosl j hji] at ho; rw [hcal j y k cs ho]; rfl
              · subst hji; simp
              · rw [hosg j hji] at ho; exact absurd rfl (q5 _ _ ho _ _ _)
            · rw [getD_set (by omega), hlast j (by omega)]
              have : j ≠ i := by omega
              simp [this]
            · rw [hX, hC0, hCm]
              have hle1 : ∀ j, (listed.getD j false || decide (j = i)) = true → j ≤ i := fun j hj => by
                apply Nat.le_of_not_lt
                intro hlt2
                rw [hlast j (by omega)] at hj
                simp at hj; omega
              refine ⟨by rw [g7, hR.gh], fun j y o2 d2 hj hy ho hd2 => ?_, fun t ht => ?_, fun j y cs d2 hj hy ho hd2 => ?_, fun j y z kk cs hj hy ho => ?_, fun kk hkk hkk2 => ?_⟩
              · rw [g5]
                rcases Nat.lt_or_ge j i with hji | hji
                · rw [hosl j hji] at ho
                  have hLj : listed.getD j false = true := by simpa [show j ≠ i by omega] using hj
                  have hy2 := take_get.2 ⟨hji, (take_get.1 hy).2⟩
                  have h3 := hR.sl j y o2 d2 hLj hy2 ho hd2
                  rw [if_neg]
                  · exact h3
                  · intro e; subst e
                    rw [hfr] at h3
                    obtain ⟨y', o3, d3, r1, r2, r3, _, r5, _⟩ := h j (by omega)
                    rw [hy2] at r1; injection r1 with r1; subst r1
                    rw [ho] at r2; injection r2 with r2; subst r2
                    rw [hd2] at r3; injection r3 with r3; subst r3
                    exact Out.sv_known r5 (by rw [← h3])
                · have : j = i := by have := hle1 j hj; omega
                  subst this
                  rw [hosi] at ho; injection ho with ho; subst ho
                  have hy2 := (take_get.1 hy).2
                  rw [hxx] at hy2; injection hy2 with hy2; subst hy2
                  rw [hd] at hd2; injection hd2 with hd2; subst hd2
                  rw [if_pos rfl]; rfl
              · rw [g5, if_neg (fun e => by subst e; exact ht i _ (by simp) (take_get.2 ⟨by omega, hxx⟩) hd)]
                exact hR.sl0 t fun j y hj hy => ht j y (by simp [hj]) (take_get.2 ⟨by have := (take_get.1 hy).1; omega, (take_get.1 hy).2⟩)
              · rw [g6]
                have hjl := (take_get.1 hy).1
                rw [if_neg (fun e => by subst e; exact hnoal j y cs k' i _ hxx hk hjl hy ho hd2)]
                rcases Nat.lt_or_ge j i with hji | hji
                · rw [hosl j hji] at ho
                  have hLj : listed.getD j false = true := by simpa [show j ≠ i by omega] using hj
                  exact hR.rf j y cs d2 hLj (take_get.2 ⟨hji, (take_get.1 hy).2⟩) ho hd2
                · have : j = i := by have := hle1 j hj; omega
                  subst this
                  rw [hosi] at ho; injection ho with ho; cases ho
              · rw [g6]
                by_cases hkk : k' = kk
                · subst hkk; rw [if_pos rfl, hk1]
                · rw [if_neg hkk]
                  rcases Nat.lt_or_ge j i with hji | hji
                  · rw [hosl j hji] at ho
                    have hLj : listed.getD j false = true := by simpa [show j ≠ i by omega] using hj
                    have hy2 := take_get.2 ⟨hji, (take_get.1 hy).2⟩
                    rw [hR.rfk j y z kk cs hLj hy2 ho]
                    obtain ⟨y', o3, d3, r1, r2, r3, _, r5, _⟩ := h j (by omega)
                    rw [hy2] at r1; injection r1 with r1; subst r1
                    rw [ho] at r2; injection r2 with r2; subst r2
                    have := hres.refeq (k := kk) (i := i) (i + 1 + m2) (by omega) (by omega) (fun j2 y2 cs2 h1 h2 h3 => by
                      rcases Nat.lt_or_ge i j2 with hlt2 | hge2
                      · rw [hosg j2 hlt2] at h3; exact q5 _ _ h3 _ _ _ rfl
                      · have : j2 = i := by omega
                        subst this
                        rw [hosi] at h3; injection h3 with h3; injection h3 with _ h3 _; exact hkk h3) (fun j2 y2 cs2 h1 h2 h3 h4 => hnoal j2 y2 cs2 kk j _ (take_get.1 hy).2 r5.2.2.2 h2 h3 h4)
                    rw [hCm, hCi] at this
                    exact this.symm
                  · have : j = i := by have := hle1 j hj; omega
                    subst this
                    rw [hosi] at ho; injection ho with ho; injection ho with _ ho _; exact absurd ho hkk
              · rw [g6, if_neg (fun e => by subst e; exact hkk2 i _ res cs' (by simp) (take_get.2 ⟨by omega, hxx⟩) hosi)]
                exact hR.rf0 kk (fun j y cs hj hy ho => by
                  have h1 := (take_get.1 hy).1
                  exact hkk j y cs (by simp [hj]) (take_get.2 ⟨by omega, (take_get.1 hy).2⟩) (by rw [hosl j h1]; exact ho)) (fun j y z cs hj hy ho => by
                  have h1 := (take_get.1 hy).1
                  exact hkk2 j y z cs (by simp [hj]) (take_get.2 ⟨by omega, (take_get.1 hy).2⟩) (by rw [hosl j h1]; exact ho))
          · exact hE.elim
        · exact hDV.elim
      · -- what stands behind the call waits for it
        exfalso
        obtain ⟨x, k, hx, hk⟩ := hstop (by omega)
        have := hcli m ((efChk_spec hef hx hk hxx).2.1 him)
        rw [hlast m (Nat.le_refl _)] at this; simp at this
end
end Go.Eng
