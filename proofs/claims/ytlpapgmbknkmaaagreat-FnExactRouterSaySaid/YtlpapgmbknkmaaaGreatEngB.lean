/-
  A logic over pure values for the walk of Go functions: its definitions and their soundness, for every program; no condition.
-/
import Derived.Test.YtlpapgmbknkmaaaGreatEngA
set_option linter.unusedSimpArgs false
set_option linter.unusedVariables false
set_option maxRecDepth 100000
set_option maxHeartbeats 2000000
namespace Go.Eng
open Go
def D.scalar : D → Bool
  | .int _ _ => true
  | .bool _ => true
  | .str _ => true
  | _ => false
def flatRows (rows : List (List D)) : Bool := rows.all fun r => r.all D.scalar
def grab (st : St) : Cell → Option (Nat × List (List D) × St)
  | .al p => moveOut st p
  | .own sz [] => some (sz, [], st)
  | _ => none
def alOr : Cell → Pl
  | .al p => p
  | _ => ⟨.res 0, []⟩
def okBig (n k bytes : Nat) : Bool := decide ((n + k) * bytes ≤ 140737488355328) && decide (n + k ≤ 140737488355328)
def appSt (st : St) (d sz bytes : Nat) (x y : XO) (nested : Bool) : Option St :=
  match grab st (evX st x).c1 with
  | some (sz', rows, st1) =>
    if sz' = sz then
      if nested then
        match (evX st y).c1 with
        | .al q => if clearOf (alOr (evX st x).c1) [.al q] = true then
            match rowsAt st1 q with
            | some (sz'', rowsY) =>
              match elemDs st1 ⟨.slot d 0, []⟩ (toCells q 0 rowsY.flatten) with
              | some (ds, st2) => if sz'' = sz ∧ okBig rows.length rowsY.length bytes = true ∧ (look st2.sl d).owns = false then some (putSlot st2 d ⟨.one, [.own sz (rows ++ chunk sz rowsY.length ds)]⟩) else none
              | none => none
            | none => none
          else none
        | _ => none
      else
        match rowsOf st (evX st y).c1 with
        | some (sz'', rowsY) => if sz'' = sz ∧ flatRows rowsY = true ∧ okBig rows.length rowsY.length bytes = true ∧ (look st1.sl d).owns = false then some (putSlot st1 d ⟨.one, [.own sz (rows ++ rowsY)]⟩) else none
        | none => none
    else none
  | none => none
section
variable {P : Program} {ω : Nat → Lab} {m : Mc} {st : St} {o : Oper} {a : Act}
theorem rd_vals {w : World} {sz : Nat} {rows : List (List D)} {Q : BP} {v : Value} (h : rd w (.lst sz rows) Q v) :
    ∃ aa cap vs, v = .slice aa rows.length cap ∧ (∀ r ∈ rows, r.length = sz) ∧ vs.length = rows.length * sz ∧ (vs = [] ∨ ∃ ad, aa = some ad ∧ ad.spot = none ∧ ∀ (j : Nat) u, vs[j]? = some u → w.cell? (ad.add j) = some u) ∧
      (rows ≠ [] → ∃ ad, aa = some ad) ∧ ∀ (j : Nat) x, rows.flatten[j]? = some x → ∃ u, vs[j]? = some u ∧ rd w x (fun q => Q (j :: q)) u := by
  obtain ⟨aa, cap, hv, hle, hlen, hmem⟩ := h
  rcases hmem with rfl | ⟨ad, arr, elem, fz, rfl, hs, hh, hq, hrw⟩
  · have h1 : rows = [] := List.eq_nil_of_length_eq_zero (by omega)
    subst h1; exact ⟨aa, 0, [], hv, hlen, by simp, .inl rfl, by simp, by simp⟩
  · obtain ⟨b, ao, spot⟩ := ad
    simp only at hs; subst hs
    simp only at hh hrw
    rw [rdRows_flat, rdCs_iff] at hrw
    have hfl := flat_length rows hlen
    have hvl : ((arr.toList.drop ao).take (rows.length * sz)).length = rows.length * sz := by
      rw [List.length_take, Nat.min_eq_left]
      rw [List.length_drop]
      have hal := arr.length_toList
      cases hl : rows.length * sz with
      | zero => omega
      | succ l =>
        have hlt : l < rows.flatten.length := by omega
        obtain ⟨u, hu, _⟩ := hrw l rows.flatten[l] (List.getElem?_eq_getElem hlt)
        have := (Array.getElem?_eq_some_iff.1 hu).1
        omega
    refine ⟨_, cap, (arr.toList.drop ao).take (rows.length * sz), hv, hlen, hvl, .inr ⟨_, rfl, rfl, fun j u hj => ?_⟩, fun _ => ⟨_, rfl⟩, fun j x hj => ?_⟩
    · rw [Addr.add_lit, cell?_at hh]
      rw [List.getElem?_take] at hj
      split at hj
      · simpa using hj
      · simp at hj
    · obtain ⟨u, hu, hr⟩ := hrw j x hj
      simp only [Nat.zero_add] at hu hr
      refine ⟨u, ?_, hr⟩
      rw [List.getElem?_take, if_pos (by rw [← hfl]; exact (List.getElem?_eq_some_iff.1 hj).1), List.getElem?_drop]
      simpa using hu
theorem scalar_rd {w w' : World} {x : D} {Q Q' : BP} {v : Value} (hs : x.scalar = true) (h : rd w x Q v) : rd w' x Q' v ∧ v.oneCell' = true := by
  cases x <;> simp [D.scalar] at hs <;> simp only [rd] at h ⊢ <;> subst h <;> exact ⟨rfl, rfl⟩
theorem grab_sound {c : Cell} {v : Value} {sz : Nat} {rows : List (List D)} {st1 : St} (d : Root) (h : RR ω m st) (hc : ∀ r, CR ω m r v c) (hg : grab st c = some (sz, rows, st1)) :
    ∃ ω', RR ω' m st1 ∧ (∀ b, ω' b = .frame ↔ ω b = .frame) ∧ rd m.w (.lst sz rows) (Qown ω' d []) v ∧
      ∀ q u, clearOf (alOr c) [.al q] = true → hd ω m q u → hd ω' m q u := by
  cases c with
  | al p =>
    simp only [grab] at hg
    obtain ⟨h1, h2⟩ := moveOut_sound d [] h (hc d).1 hg
    refine ⟨_, h1, fun b => relab_frame, h2, fun q u hcl hq => ?_⟩
    have hcl : q.r ≠ p.r ∨ q.p.length ≤ p.p.length := by
      simp only [alOr, clearOf, List.all_cons, List.all_nil, Bool.and_true, Cell.places] at hcl
      rcases (Bool.or_eq_true _ _ ▸ hcl : _ ∨ _) with h | h
      · exact .inl (of_decide_eq_true h)
      · exact .inr (of_decide_eq_true h)
    refine hd_keep (fun v0 h => h) (fun q' hw b x hx hb => ⟨hx, relab_other hb (fun ⟨e, hpre⟩ => ?_)⟩) hq
    rcases hcl with h3 | h3
    · exact h3 e
    · obtain ⟨_, t, ht0, ht⟩ := hw
      have hl := hpre.length_le
      have : q.p.length = q'.length + t.length := by rw [ht, List.length_append]
      have ht1 : 0 < t.length := List.length_pos_iff.2 ht0
      omega
  | own sz' rows' =>
    cases rows' with
    | nil =>
      simp only [grab, Option.some.injEq, Prod.mk.injEq] at hg
      obtain ⟨rfl, rfl, rfl⟩ := hg
      exact ⟨ω, h, fun _ => Iff.rfl, own_nil_any hc, fun q u _ hq => hq⟩
    | cons _ _ => simp [grab] at hg
  | _ => simp [grab] at hg
theorem grab_ne {c : Cell} {x : Nat × List (List D) × St} (h : grab st c = some x) : c ≠ .undef := by intro e; subst e; simp [grab] at h
theorem e_app {d sz bytes : Nat} {t e : TypeId} {i : TypeInfo} {z : Value} {x y : XO} {zx zy : Operand} {nested : Bool} {st' : St} (h : RR ω m st) (ha : a.tmps = m.T) (hd : d < m.T.size)
    (ho : o.op = .call { callee := .builtin .append, args := #[zx, zy], argTypes := #[t, t] }) (hx : mO zx x = true) (hy : mO zy y = true)
    (hu : P.underlying t = some (.slice e)) (hi : P.info? e = some i) (hsz : i.size = sz) (hby : i.bytes = bytes) (hz : i.zero = some z) (hzs : z.cells.size = sz)
    (hs : appSt st d sz bytes x y nested = some st') : EOk P ω m o a d st' := by
  have hex : ∀ v w, (Builtin.append_ #[t, t] o.type #[a.eval zx, a.eval zy]).run P m.w = .ok v w → (execOp a.eval o).run P m.w = .ok (.value v) w := by
    intro v w hr
    simp [execOp, ho, resolve, invoke, builtin, hr]
  unfold appSt at hs
  split at hs
  · rename_i sz' rows st1 hg
    have hcx := fun r => (c1_of h ha hx rfl (grab_ne hg) (fun _ => r)).1
    obtain ⟨ω1, h1, hfr1, hrx, hkeepq⟩ := grab_sound (.slot d 0) h hcx hg
    split at hs
    · rename_i hszz
      subst hszz
      split at hs
      · -- lists in it
        split at hs
        · rename_i q hcy
          split at hs
          · rename_i hclr
            split at hs
            · rename_i sz2 rowsY hrowsY
              split at hs
              · rename_i ds st2 hds
                split at hs
                · rename_i hcond
                  obtain ⟨rfl, hbig, hno⟩ := hcond
                  simp only [Option.some.injEq] at hs; subst hs
                  have hq0 := (c1_of h ha hy hcy (by simp) (fun _ => .res 0)).1.1
                  have hq1 := hkeepq q _ hclr hq0
                  have hrdY := h1.at hrowsY hq1
                  obtain ⟨ay, capy, vs, hvy, hly, hvl, hay, hay0, hel⟩ := rd_vals hrdY
                  have hfl := flat_length rowsY hly
                  have hcr : ∀ (j : Nat) v c, vs[j]? = some v → (toCells q 0 rowsY.flatten)[j]? = some c → ∀ r, CR ω1 m r v c := by
                    intro j v c hv hc r
                    simp only [toCells_get, Option.map_eq_some_iff, Nat.zero_add] at hc
                    obtain ⟨x, hx, rfl⟩ := hc
                    obtain ⟨u, hu, hr⟩ := hel j x hx
                    rw [hv] at hu; injection hu with hu; subst hu
                    have hne : rowsY ≠ [] := by intro e; subst e; simp at hx
                    obtain ⟨ad, cap', arr, elem, fz, hv2, _, hsp, hh, hqq, _, hel2⟩ := rd_flat hrdY hne
                    rw [hv2] at hq1
                    obtain ⟨u2, hu2, hr2⟩ := hel2 j x hx
                    -- the very cell
                    have hcell : u2 = v := by
                      rcases hay with rfl | ⟨ad3, e3, hs3, hc3⟩
                      · simp at hv
                      · rw [hvy, e3] at hv2
                        injection hv2 with e4 _ _; injection e4 with e4; subst e4
                        have := hc3 j v hv
                        obtain ⟨b3, o3, s3⟩ := ad3
                        simp only at hs3; subst hs3
                        rw [Addr.add_lit, cell?_at hh] at this
                        simp only at hu2
                        rw [hu2] at this; injection this
                    subst hcell
                    exact CR_toCell hq1 hsp (by simpa using hqq.1) hh hu2 hr2
                  obtain ⟨ω2, b1, _, b3, b4, b5, b6, b7⟩ := elemDs_sound (p := ⟨.slot d 0, []⟩) (u := undef) _ vs ω1 st1 st2 ds (rows.length * sz2) h1 (by rw [toCells_length, hvl, hfl]) hcr hds
                  rw [toCells_length, hfl] at b5
                  obtain ⟨c1, c2, c3⟩ := chunk_len (sz := sz2) rowsY.length ds b5
                  simp only [okBig, Bool.and_eq_true, decide_eq_true_eq] at hbig
                  have hrx2 : rd m.w (.lst sz2 rows) (Qown ω2 (.slot d 0) []) (a.eval zx) := rd_carry _ _ _ _ (fun q' ad k arr elem fz hh hq => ⟨hh, b4 _ _ hq.1, hq.2⟩) hrx
                  refine EOk.lab hfr1 (EOk.lab b3 (app_core (ty := o.type) (rowsY := chunk sz2 rowsY.length ds) (vs := vs) b1 hd hu hi hsz hby hz hzs hno hrx2 (by rw [c2]; exact hvy) c1 (by rw [c2]; exact hvl) b6 hay (fun hne => hay0 (fun e => hne (by subst e; rfl)))
                    (fun j x v hj hv => ?_) (by rw [c2]; exact hbig.1) (by rw [c2]; exact hbig.2) hex))
                  rw [c3] at hj
                  have := b7 j x v hj hv
                  simpa using this
                · simp at hs
              · simp at hs
            · simp at hs
          · simp at hs
        · simp at hs
      · -- flat
        split at hs
        · rename_i sz2 rowsY hrowsY
          split at hs
          · rename_i hcond
            obtain ⟨rfl, hflat, hbig, hno⟩ := hcond
            simp only [Option.some.injEq] at hs; subst hs
            have hcy := (c1_of h ha hy rfl (rowsOf_ne hrowsY) (fun _ => .res 0)).1
            have hrdY := rowsOf_sound h hcy hrowsY
            obtain ⟨ay, capy, vs, hvy, hly, hvl, hay, hay0, hel⟩ := rd_vals hrdY
            have hfl := flat_length rowsY hly
            simp only [okBig, Bool.and_eq_true, decide_eq_true_eq] at hbig
            have hsc : ∀ (j : Nat) x, rowsY.flatten[j]? = some x → x.scalar = true := by
              intro j x hj
              obtain ⟨r, hr, hx⟩ := List.mem_flatten.1 (List.mem_of_getElem? hj)
              exact List.all_eq_true.1 (List.all_eq_true.1 hflat r hr) x hx
            refine EOk.lab hfr1 (app_core (ty := o.type) (vs := vs) h1 hd hu hi hsz hby hz hzs hno hrx hvy hly hvl (fun v hv => ?_) hay hay0 (fun j x v hj hv => ?_) hbig.1 hbig.2 hex)
            · obtain ⟨j, hj⟩ := List.mem_iff_getElem?.1 hv
              have hlt : j < rowsY.flatten.length := by rw [hfl, ← hvl]; exact (List.getElem?_eq_some_iff.1 hj).1
              obtain ⟨u, hu, hr⟩ := hel j _ (List.getElem?_eq_getElem hlt)
              rw [hj] at hu; injection hu with hu; subst hu
              exact (scalar_rd (w' := m.w) (Q' := Qany) (hsc j _ (List.getElem?_eq_getElem hlt)) hr).2
            · obtain ⟨u, hu, hr⟩ := hel j x hj
              rw [hv] at hu; injection hu with hu; subst hu
              exact (scalar_rd (hsc j x hj) hr).1
          · simp at hs
        · simp at hs
    · simp at hs
  · simp at hs
end
def slcOSt (st : St) (d sz : Nat) (x : XO) (lo hi : Option XO) : Option St :=
  match grab st (evX st x).c1 with
  | some (sz', rows, st1) => match loBound st lo, hiBound st rows.length hi with
    | some l, some h => if sz' = sz ∧ (0 ≤ l ∧ l ≤ h ∧ h ≤ rows.length) ∧ (look st1.sl d).owns = false then some (putSlot st1 d ⟨.one, [.own sz ((rows.take h.toNat).drop l.toNat)]⟩) else none
    | _, _ => none
  | none => none
def shiftLab (ω : Nat → Lab) (d k : Nat) : Nat → Lab := fun b => match ω b with
  | .at r (j :: q) => if r = .slot d 0 ∧ k ≤ j then .at (.slot d 0) ((j - k) :: q) else .at r (j :: q)
  | l => l
section
variable {P : Program} {ω : Nat → Lab} {m : Mc} {st : St} {o : Oper} {a : Act}
theorem shift_frame {d k b : Nat} : shiftLab ω d k b = .frame ↔ ω b = .frame := by
  unfold shiftLab
  split
  · rename_i r j q hb
    rw [hb]
    split <;> simp
  · exact Iff.rfl
theorem shift_other {d k b : Nat} {l : Lab} (h : ω b = l) (hn : ∀ q, l ≠ .at (.slot d 0) q) : shiftLab ω d k b = l := by
  unfold shiftLab
  split
  · rename_i r j q hb
    rw [hb] at h; subst h
    rw [if_neg (fun e => hn _ (by rw [e.1]))]
  · exact h
theorem RR.relabD {d : Nat} {ω' : Nat → Lab} (h : RR ω m st) (hno : (look st.sl d).owns = false) (hl : ∀ b l, ω b = l → (∀ q, l ≠ .at (.slot d 0) q) → ω' b = l) : RR ω' m st := by
  have hnoroot : ∀ i, (rootCell st (.slot d i)).isOwn = false := by
    intro i
    cases hi : (rootCell st (.slot d i)).isOwn with
    | false => rfl
    | true => rw [SV.owns_get (c := i) hi] at hno; simp at hno
  have hrne : ∀ p, (rootCell st p).isOwn = true → ∀ q q', (.at p q : Lab) ≠ .at (.slot d 0) q' := by
    intro p hp q q' e
    injection e with e _
    subst e
    rw [hnoroot 0] at hp; simp at hp
  refine ⟨?_, h.al⟩
  have := h.r.move (m' := m) (ω' := ω') (fun _ => false) (fun s => .inl rfl) rfl
    (fun r v c hc hne _ hcr => hcr.keep (fun b x hx hb => ⟨hx, hl b _ hb (by simp)⟩) (fun ho q b x hx hb => ⟨hx, hl b _ hb (fun q' => hrne r (by rw [hc]; exact ho) q q')⟩) (fun _ _ => rfl)
      (fun p hp => ⟨fun v0 hv0 => hv0, fun q _ b x hx hb => ⟨hx, hl b _ hb (fun q' => hrne p.r (h.al r p (by rw [hc]; exact hp)) q q')⟩⟩))
    (fun k hk => ⟨rfl, fun arr1 elem1 hb1 hh1 => ⟨hh1, hl _ _ hb1 (by simp)⟩⟩)
  rwa [St.filt_false] at this
theorem e_slcO {d sz : Nat} {t e : TypeId} {i : TypeInfo} {x : XO} {zx : Operand} {lo hi : Option XO} {l' h' : Option Operand} {st' : St} (h : RR ω m st) (ha : a.tmps = m.T) (hd : d < m.T.size)
    (ho : o.op = .slice t zx l' h' none) (hx : mO zx x = true) (hl : mOo l' lo = true) (hh : mOo h' hi = true) (hu : P.underlying t = some (.slice e)) (hi' : P.info? e = some i) (hsz : i.size = sz)
    (hs : slcOSt st d sz x lo hi = some st') : EOk P ω m o a d st' := by
  unfold slcOSt at hs
  split at hs
  · rename_i sz' rows st1 hg
    split at hs
    · rename_i n1 n2 h1 h2
      split at hs
      · rename_i hcond
        obtain ⟨rfl, hb, hno⟩ := hcond
        simp only [Option.some.injEq] at hs; subst hs
        have hcx := fun r => (c1_of h ha hx rfl (grab_ne hg) (fun _ => r)).1
        obtain ⟨ω1, hr1, hfr1, hrx, _⟩ := grab_sound (.slot d 0) h hcx hg
        obtain ⟨aa, cap, hv, hle, hlen, hmem⟩ := hrx
        have hrx' : rd m.w (.lst sz' rows) (Qown ω1 (.slot d 0) []) (.slice aa rows.length cap) := by rw [← hv]; exact ⟨aa, cap, hv, hle, hlen, hmem⟩
        have hbd := run_bounds (P := P) (isS := true) (cap := cap) h ha hl hh h1 h2 hb hle
        have hsub := rd_sub (Q' := Qown (shiftLab ω1 d (n1.toNat * sz')) (.slot d 0) []) (l := n1.toNat) (h := n2.toNat) hrx' (by omega) (by omega) (fun _ _ _ _ _ _ _ _ => trivial)
          (fun ad k arr fz hq => by
            obtain ⟨a1, a2, a3⟩ := hq
            refine ⟨?_, a2, ?_⟩
            · simp only [List.append_nil] at a1 ⊢
              simp only [shiftLab, a1]
            · simp only
              have : n1.toNat * sz' + (cap - n1.toNat) * sz' = cap * sz' := by rw [← Nat.add_mul]; congr 1; omega
              omega)
          (fun q ad k arr fz j hq => by
            obtain ⟨a1, a2, a3⟩ := hq
            refine ⟨?_, a2, a3⟩
            simp only [List.nil_append] at a1 ⊢
            simp only [shiftLab, a1]
            rw [if_pos ⟨trivial, by omega⟩]
            congr 2; omega)
        have hr2 := hr1.relabD (ω' := shiftLab ω1 d (n1.toNat * sz')) hno (fun b l hb hn => shift_other hb hn)
        refine EOk.lab hfr1 (EOk.lab (ω' := shiftLab ω1 d (n1.toNat * sz')) (fun b => shift_frame) ?_)
        refine ⟨_, m.w, _, m.rb, ?_, hr2.put (d := d) hd (one_sound rfl hsub) (one_al (by simp [Cell.places])), Tr.put d _⟩
        simp [execOp, ho, Instr.sliceAt, Instr.slice, run_underlying hu, hv, hbd, run_sizeOf hi', hsz]
      · simp at hs
    · simp at hs
  · simp at hs
def buildCells (st : St) : List Cell → List (Nat × Nat × XO) → Option (List Cell)
  | cs, [] => some cs
  | cs, (off, n, x) :: ps => match (evX st x).sh with
    | .one => if (evX st x).cs.length = n ∧ off + n ≤ cs.length then buildCells st (splice cs off (evX st x).cs) ps else none
    | .agg => if (evX st x).cs.length = n ∧ off + n ≤ cs.length then buildCells st (splice cs off (evX st x).cs) ps else none
    | _ => none
end
def mFields (P : Program) (fs : Array Field) : List (Nat × Operand) → List (Nat × Nat × XO) → Bool
  | [], [] => true
  | (i, y) :: ys, (off, n, x) :: xs => (match fs[i]? with
    | some fl => fl.offset == off && (match P.info? fl.type with
      | some inf => inf.size == n
      | none => false)
    | none => false) && mO y x && mFields P fs ys xs
  | _, _ => false
def placesOf (P : Program) (fs : Array Field) : Array (Nat × Nat) := fs.map fun (f : Field) => (f.offset, ((P.info? f.type).map (·.size)).getD 0)
def fieldsKnown (P : Program) (fs : Array Field) : Bool := fs.toList.all fun f => (P.info? f.type).isSome
section
variable {P : Program} {ω : Nat → Lab} {m : Mc} {st : St} {o : Oper} {a : Act}
theorem run_mapM {α β : Type} (f : α → Sem β) (g : α → β) (w : World) : ∀ (l : List α), (∀ x ∈ l, (f x).run P w = .ok (g x) w) → (l.mapM f).run P w = .ok (l.map g) w
  | [], _ => by simp
  | x :: xs, h => by
    simp [List.mapM_cons, h x (by simp), run_mapM f g w xs (fun y hy => h y (by simp [hy]))]
theorem run_places {fs : Array Field} {w : World} (h : fieldsKnown P fs = true) :
    (fs.mapM fun (f : Field) => (do pure (f.offset, ← sizeOf f.type) : Sem (Nat × Nat))).run P w = .ok (placesOf P fs) w := by
  rw [Array.mapM_eq_mapM_toList, Sem.run_map]
  rw [run_mapM (P := P) (fun f : Field => (do pure (f.offset, ← sizeOf f.type) : Sem (Nat × Nat))) (fun f => (f.offset, ((P.info? f.type).map (·.size)).getD 0)) w fs.toList (fun f hf => by
    have := List.all_eq_true.1 h f hf
    obtain ⟨i, hi⟩ := Option.isSome_iff_exists.1 this
    simp [run_sizeOf hi, hi])]
  simp only [placesOf, Result.andThen_ok]; congr 1; apply Array.ext'; simp
theorem build_fill (h : RR ω m st) (ha : a.tmps = m.T) {fs : Array Field} : ∀ (ys : List (Nat × Operand)) (xs : List (Nat × Nat × XO)) (arr : Array Value) (cs cs' : List Cell),
    mFields P fs ys xs = true → (∀ r, CRs ω m r 0 arr.toList cs) → (∀ c ∈ cs, ∀ p ∈ c.places, (rootCell st p.r).isOwn = true) → buildCells st cs xs = some cs' →
    ∃ arr', Instr.fill ((placesOf P fs)[·]?) arr (ys.map fun y => (y.1, a.eval y.2)) = some arr' ∧ (∀ r, CRs ω m r 0 arr'.toList cs') ∧
      (∀ c ∈ cs', ∀ p ∈ c.places, (rootCell st p.r).isOwn = true)
  | [], [], arr, cs, cs', _, hc, hal, hb => by
    simp only [buildCells, Option.some.injEq] at hb; subst hb
    exact ⟨arr, rfl, hc, hal⟩
  | [], _ :: _, _, _, _, hm, _, _, _ => by simp [mFields] at hm
  | _ :: _, [], _, _, _, hm, _, _, _ => by simp [mFields] at hm
  | (i, y) :: ys, (off, n, x) :: xs, arr, cs, cs', hm, hc, hal, hb => by
    simp only [mFields, Bool.and_eq_true] at hm
    obtain ⟨⟨hf, hy⟩, hm⟩ := hm
    have hpl : (placesOf P fs)[i]? = some (off, n) := by
      cases hfi : fs[i]? with
      | none => simp [hfi] at hf
      | some fl =>
        simp only [hfi, Bool.and_eq_true, beq_iff_eq] at hf
        obtain ⟨h1, h2⟩ := hf
        cases hinf : P.info? fl.type with
        | none => simp [hinf] at h2
        | some inf =>
          simp only [hinf, beq_iff_eq] at h2
          simp [placesOf, hfi, h1, hinf, h2]
    have main : ((evX st x).sh = .one ∨ (evX st x).sh = .agg) → (if (evX st x).cs.length = n ∧ off + n ≤ cs.length then buildCells st (splice cs off (evX st x).cs) xs else none) = some cs' →
        ∃ arr', Instr.fill ((placesOf P fs)[·]?) arr ((i, a.eval y) :: ys.map fun y => (y.1, a.eval y.2)) = some arr' ∧ (∀ r, CRs ω m r 0 arr'.toList cs') ∧
          (∀ c ∈ cs', ∀ p ∈ c.places, (rootCell st p.r).isOwn = true) := by
      intro hsh hb
      split at hb
      · rename_i hcond
        obtain ⟨hn, hle⟩ := hcond
        have hv := fun r => CRs_cells (evX_sound h ha hy r) hsh
        have hvl : (a.eval y).cells.toList.length = n := by rw [((CRs_iff _ _ _ _ _ _).1 (hv .res)).1]; exact hn
        have hal' := alOk_mem (sh_ne hsh) (evX_alOk (st := st) h hy)
        have hcl : arr.toList.length = cs.length := ((CRs_iff _ _ _ _ _ _).1 (hc .res)).1
        have hvs : (a.eval y).cells.size = n := by rw [← hvl]; simp
        have hcond : ¬ ((a.eval y).cells.size ≠ n ∨ off + (a.eval y).cells.size > arr.size) := by
          rw [hvs]; simp only [Array.length_toList] at hcl; omega
        have hfold : (a.eval y).cells.zipIdx.foldl (fun (cs : Array Value) (x : Value × Nat) => cs.setIfInBounds (off + x.2) x.1) arr = (arr.toList.take off ++ (a.eval y).cells.toList ++ arr.toList.drop (off + (a.eval y).cells.toList.length)).toArray := by
          rw [← Array.foldl_toList, Array.toList_zipIdx]
          have := foldl_set [] (a.eval y).cells.toList off 0 arr (by rw [hvl]; simp only [Array.length_toList] at hcl; omega)
          simpa using this
        have hspl : ∀ r, CRs ω m r 0 (arr.toList.take off ++ (a.eval y).cells.toList ++ arr.toList.drop (off + (a.eval y).cells.toList.length)) (splice cs off (evX st x).cs) := by
          intro r
          rw [CRs_iff]
          refine ⟨?_, fun j v c hj hc' => ?_⟩
          · rw [splice_length _ _ _ (by rw [hn]; exact hle), ← hcl]
            simp only [List.length_append, List.length_take, List.length_drop, hvl]; omega
          · rw [vsplice_get _ _ _ _ (by rw [hvl, hcl]; exact hle), hvl] at hj
            rw [splice_get _ _ _ _ (by rw [hn]; exact hle), hn] at hc'
            by_cases hjj : off ≤ j ∧ j < off + n
            · rw [if_pos hjj] at hj hc'
              have := ((CRs_iff ω m (fun i => r (off + i)) _ _ 0).1 (hv _)).2 (j - off) v c hj hc'
              simp only [Nat.zero_add] at this ⊢
              rwa [show off + (j - off) = j by omega] at this
            · rw [if_neg hjj] at hj hc'
              exact ((CRs_iff ω m r _ _ 0).1 (hc r)).2 j v c hj hc'
        obtain ⟨arr', h1, h2, h3⟩ := build_fill h ha ys xs (arr.toList.take off ++ (a.eval y).cells.toList ++ arr.toList.drop (off + (a.eval y).cells.toList.length)).toArray _ cs' hm (fun r => by rw [List.toList_toArray]; exact hspl r) (fun c hc' p hp => by
          obtain ⟨j, hj⟩ := List.mem_iff_getElem?.1 hc'
          rw [splice_get _ _ _ _ (by rw [hn]; exact hle)] at hj
          split at hj
          · exact hal' c (List.mem_of_getElem? hj) p hp
          · exact hal c (List.mem_of_getElem? hj) p hp) hb
        refine ⟨arr', ?_, h2, h3⟩
        simp only [Instr.fill, hpl, bne_iff_ne, Bool.or_eq_true, decide_eq_true_eq]
        rw [if_neg (by simpa using hcond)]
        have hf2 : ((a.eval y).cells.zipIdx.foldl (fun cs (x, j) => cs.setIfInBounds (off + j) x) arr) = (arr.toList.take off ++ (a.eval y).cells.toList ++ arr.toList.drop (off + (a.eval y).cells.toList.length)).toArray := hfold
        rw [hf2]
        exact h1
      · simp at hb
    simp only [buildCells] at hb
    simp only [List.map_cons]
    split at hb
    · rename_i hsh; exact main (.inl hsh) hb
    · rename_i hsh; exact main (.inr hsh) hb
    · simp at hb
theorem q_build {t : TypeId} {fs : Array Field} {i : TypeInfo} {z : Value} {ps : Array (Nat × Operand)} {zero cs' : List Cell} {parts : List (Nat × Nat × XO)} (h : RR ω m st) (ha : a.tmps = m.T)
    (ho : o.op = .build t ps) (hu : P.underlying t = some (.struct fs)) (hi : P.info? t = some i) (hz : i.zero = some z) (hzc : constCs z.cells.toList zero = true) (hk : fieldsKnown P fs = true)
    (hm : mFields P fs ps.toList parts = true) (hb : buildCells st zero parts = some cs') : QOk P ω m st o a ⟨.agg, cs'⟩ := by
  obtain ⟨arr', h1, h2, h3⟩ := build_fill (P := P) h ha ps.toList parts z.cells zero cs' hm (fun r => constCs_sound 0 hzc) (fun c hc p hp => by rw [constCs_places hzc c hc] at hp; simp at hp) hb
  refine ⟨.agg arr', ?_, fun r => ⟨⟨arr', rfl⟩, by simpa [flatV] using h2 r⟩, SV.alOk_of h3⟩
  have hpm : (ps.map fun (x : Nat × Operand) => match x with | (i, x) => (i, a.eval x)).toList = ps.toList.map fun y => (y.1, a.eval y.2) := by rw [Array.toList_map]
  rw [← hpm] at h1
  simp only [execOp, ho, Instr.build, Sem.run_bind]
  simp only [zeroValue, typeInfo, Sem.run_bind, run_program, hi, hz, Result.andThen_ok, Sem.run_pure, run_underlying hu]
  have hp := run_places (P := P) (w := m.w) hk
  simp only [bind_pure_comp] at hp ⊢
  simp only [hp, Result.andThen_ok, h1, Sem.run_pure]
end
def argSlots : Nat → List SV → Slots
  | _, [] => []
  | j, x :: xs => (j, x) :: argSlots (j + 1) xs
theorem look_argSlots : ∀ (xs : List SV) (j i : Nat), look (argSlots j xs) i = if j ≤ i then (xs[i - j]?).getD .undef else .undef
  | [], j, i => by simp [argSlots, look]
  | x :: xs, j, i => by
    simp only [argSlots, look, look_argSlots xs (j + 1) i]
    by_cases h : j = i
    · subst h; simp
    · by_cases h2 : j ≤ i
      · rw [if_neg h, if_pos (by omega), if_pos h2, show i - j = (i - (j + 1)) + 1 by omega]; simp
      · rw [if_neg h, if_neg (by omega), if_neg h2]
def Good (P : Program) (f : FuncId) (args : List SV) (rf : Refs) (res : SV) (args' : List SV) (rf' : Refs) : Prop :=
  ∀ (w : World) (ω : Nat → Lab) (rb : Nat → Nat) (vals : Array Value), vals.size = args.length → RR ω ⟨#[], vals, w, rb⟩ ⟨[], rf, argSlots 0 args⟩ →
    Calls P f vals w fun e w' => ∃ v ω', e = .returned v ∧ RR ω' ⟨#[], vals, w', rb⟩ ⟨[], rf', argSlots 0 args'⟩ ∧ (∀ r, r = Root.res → SVR ω' ⟨#[], vals, w', rb⟩ r v res) ∧
      Tr ω ⟨#[], vals, w, rb⟩ ω' ⟨#[], vals, w', rb⟩
def idxOf (k : Nat) : List Nat → Nat → Option Nat
  | [], _ => none
  | x :: xs, j => if x = k then some j else idxOf k xs (j + 1)
abbrev Lents := List (Root × Nat × Nat)
def lentOf (r : Root) : Lents → Option (Nat × Nat)
  | [] => none
  | (r', i, c) :: l => if r' = r then some (i, c) else lentOf r l
def lentAt (i c : Nat) : Lents → Option Root
  | [] => none
  | (r, i', c') :: l => if i' = i ∧ c' = c then some r else lentAt i c l
def badRoot (L : Lents) (refs : List Nat) (r : Root) : Bool := (lentOf r L).isSome || (match r with
  | .ref k _ => (idxOf k refs 0).isSome
  | _ => false)
def fwd (L : Lents) (refs : List Nat) : Lab → Lab
  | .at r q => match lentOf r L with
    | some (i, c) => .at (.gho i c) q
    | none => match r with
      | .ref k c => match idxOf k refs 0 with
        | some j => .at (.ref (KEY + j) c) q
        | none => .frame
      | _ => .frame
  | .blk k => match idxOf k refs 0 with
    | some j => .blk (KEY + j)
    | none => .frame
  | _ => .frame
def bwd (d : Nat) (L : Lents) (refs : List Nat) : Lab → Lab
  | .at r q => match r with
    | .gho i c => match lentAt i c L with
      | some r' => .at r' q
      | none => .junk
    | .ref k c => if KEY ≤ k then (match refs[k - KEY]? with
      | some k' => .at (.ref k' c) q
      | none => .junk) else .junk
    | .res c => .at (.slot d c) q
    | _ => .junk
  | .blk k => if KEY ≤ k then (match refs[k - KEY]? with
      | some k' => .blk k'
      | none => .junk) else .junk
  | _ => .junk
theorem idxOf_get {k : Nat} : ∀ {l : List Nat} {j i : Nat}, idxOf k l j = some i → j ≤ i ∧ l[i - j]? = some k
  | [], j, i, h => by simp [idxOf] at h
  | x :: xs, j, i, h => by
    simp only [idxOf] at h
    split at h
    · rename_i e; simp only [Option.some.injEq] at h; subst h; subst e; simp
    · obtain ⟨h1, h2⟩ := idxOf_get h
      refine ⟨by omega, ?_⟩
      rw [show i - j = (i - (j + 1)) + 1 by omega]; simpa using h2
theorem bad_fwd {L : Lents} {refs : List Nat} {r : Root} (h : badRoot L refs r = false) (q : Path) : fwd L refs (.at r q) = .frame := by
  simp only [badRoot, Bool.or_eq_false_iff] at h
  obtain ⟨h1, h2⟩ := h
  cases hl : lentOf r L with
  | some x => simp [hl] at h1
  | none =>
    simp only [fwd, hl]
    cases r with
    | ref k c =>
      cases hi : idxOf k refs 0 with
      | none => simp [hi]
      | some j => simp [hi] at h2
    | _ => rfl
mutual
def roCell (st : St) (L : Lents) (refs : List Nat) : Cell → Cell
  | .int k n => .int k n
  | .bool b => .bool b
  | .str s => .str s
  | .ro sz rows => .ro sz rows
  | .own sz rows => match rows with
    | [] => .own sz []
    | _ => .undef
  | .al p => if badRoot L refs p.r then .undef else (match rowsAt st p with
      | some (sz, rows) => .ro sz rows
      | none => .undef)
  | .ptr k o => match idxOf k refs 0 with
    | some j => .ptr (KEY + j) o
    | none => .undef
  | .rptr ds => .rptr ds
  | .st cs => .st (roCells st L refs cs)
  | .fn f fi ca => .fn f (roCells st L refs fi) (roCells st L refs ca)
  | .undef => .undef
  | .eptr _ _ => .undef
def roCells (st : St) (L : Lents) (refs : List Nat) : List Cell → List Cell
  | [] => []
  | c :: cs => roCell st L refs c :: roCells st L refs cs
end
def argCells (st : St) (L : Lents) (refs : List Nat) (own : Bool) : List Cell → List Cell
  | [] => []
  | c :: cs => (match own, c with
    | true, .al ⟨r, []⟩ => (match rootCell st r with
      | .own sz rows => .own sz rows
      | _ => .undef)
    | _, c => roCell st L refs c) :: argCells st L refs own cs
def lentsOf (st : St) (i : Nat) (own : Bool) : Nat → List Cell → Lents
  | _, [] => []
  | j, c :: cs => (match own, c with
    | true, .al ⟨r, []⟩ => [(r, i, j)]
    | _, _ => []) ++ lentsOf st i own (j + 1) cs
def refCell : Cell → Cell
  | .int k n => .int k n
  | .bool b => .bool b
  | .str s => .str s
  | .own sz rows => .own sz rows
  | .ro sz rows => .ro sz rows
  | _ => .undef
def backCell : Cell → Cell
  | .int k n => .int k n
  | .bool b => .bool b
  | .str s => .str s
  | .own sz rows => .own sz rows
  | _ => .undef
def allLents (st : St) : Nat → List (Bool × SV) → Lents
  | _, [] => []
  | i, (own, x) :: xs => lentsOf st i own 0 x.cs ++ allLents st (i + 1) xs
def callArgs (st : St) (L : Lents) (refs : List Nat) : List (Bool × SV) → List SV
  | [] => []
  | (own, x) :: xs => ⟨x.sh, argCells st L refs own x.cs⟩ :: callArgs st L refs xs
def callRefs (st : St) : Nat → List Nat → Option Refs
  | _, [] => some []
  | j, k :: ks => match lookR st.rf k, callRefs st (j + 1) ks with
    | some cs, some l => some ((KEY + j, cs.map refCell) :: l)
    | _, _ => none
section
variable {P : Program} {ω : Nat → Lab} {m : Mc} {st : St} {o : Oper} {a : Act} {L : Lents} {refs : List Nat}
def calleeM (m : Mc) (refs : List Nat) (vals : Array Value) (w : World) : Mc := ⟨#[], vals, w, fun k => if KEY ≤ k then ((refs[k - KEY]?).map m.rb).getD 0 else 0⟩
theorem rb_callee {vals : Array Value} {w : World} {k j : Nat} (h : idxOf k refs 0 = some j) : (calleeM m refs vals w).rb (KEY + j) = m.rb k := by
  obtain ⟨_, h2⟩ := idxOf_get h
  simp only [Nat.sub_zero] at h2
  simp [calleeM, h2]
theorem roCell_noown (c : Cell) (h : c.isOwn = false) : (roCell st L refs c).isOwn = false := by
  cases c with
  | own sz rows => simp [Cell.isOwn] at h
  | al p => simp only [roCell]; split; rfl; split <;> rfl
  | ptr k o => simp only [roCell]; split <;> rfl
  | _ => rfl
mutual
theorem roCell_sound (h : RR ω m st) (vals : Array Value) : ∀ (c : Cell) (r r' : Root) (v : Value), (∀ r, CRx ω m c r v) → CRx (fun b => fwd L refs (ω b)) (calleeM m refs vals m.w) (roCell st L refs c) r' v
  | .undef, _, _, _, _ => trivial
  | .int k n, r, _, _, hc => hc r
  | .bool b, r, _, _, hc => hc r
  | .str s, r, _, _, hc => hc r
  | .own sz rows, r, r', v, hc => by
    cases rows with
    | nil => exact own_nil_any hc
    | cons _ _ => trivial
  | .ro sz rows, r, _, v, hc => rd_carry _ _ _ _ (fun q ad k arr elem fz hh hq => ⟨hh, by
      simp only [Qro] at hq ⊢; rw [hq]; rfl⟩) (hc r)
  | .al p, r, r', v, hc => by
    simp only [roCell]
    split
    · trivial
    · rename_i hb
      split
      · rename_i sz rows hrows
        have hrd := h.at hrows (hc r).1
        refine rd_carry _ _ _ _ (fun q ad k arr elem fz hh hq => ⟨hh, ?_⟩) hrd
        simp only [Qro]
        rw [hq.1]; exact bad_fwd (by simpa using hb) _
      · trivial
  | .ptr k o, r, r', v, hc => by
    simp only [roCell]
    split
    · rename_i j hj
      simp only [CRx, ptrV]
      rw [rb_callee hj]; exact hc r
    · trivial
  | .eptr p o, _, _, _, _ => trivial
  | .rptr ds, r, r', v, hc => by
    obtain ⟨b, o, arr, elem, fz, h1, h2, h3, h4⟩ := hc r
    refine ⟨b, o, arr, elem, fz, h1, h2, by simp only [h3]; rfl, rdCs_carry _ _ _ _ _ _ (fun q ad k arr elem fz hh hq => ⟨hh, by simp only [Qro] at hq ⊢; rw [hq]; rfl⟩) h4⟩
  | .st cs, r, r', v, hc => by
    obtain ⟨arr, h1, h2⟩ := hc r
    exact ⟨arr, h1, roCells_sound h vals cs r r' _ h2⟩
  | .fn f fi ca, r, r', v, hc => by
    obtain ⟨fv, cv, h1, h2, h3⟩ := hc r
    exact ⟨fv, cv, h1, roCells_sound h vals fi r r' _ h2, roCells_sound h vals ca r r' _ h3⟩
theorem roCells_sound (h : RR ω m st) (vals : Array Value) : ∀ (cs : List Cell) (r r' : Root) (vs : List Value), CRl ω m cs r vs → CRl (fun b => fwd L refs (ω b)) (calleeM m refs vals m.w) (roCells st L refs cs) r' vs
  | [], _, _, _, hc => hc
  | c :: cs, r, r', vs, hc => by
    obtain ⟨v, rest, h1, h2, h3, h4⟩ := hc
    refine ⟨v, rest, h1, ?_, roCell_sound h vals c r r' v (fun r2 => CRx_root c r r2 v h2 h3), roCells_sound h vals cs r r' rest h4⟩
    exact roCell_noown c h2
end
end
def rootsNodup : Lents → Bool
  | [] => true
  | (r, _, _) :: l => !(lentOf r l).isSome && rootsNodup l
def natsNodup : List Nat → Bool
  | [] => true
  | x :: xs => !xs.contains x && natsNodup xs
def lentsOk (L : Lents) (refs : List Nat) : Bool := rootsNodup L && natsNodup refs && L.all fun x => match x.1 with
  | .ref k _ => !(idxOf k refs 0).isSome
  | _ => true
section
variable {P : Program} {ω : Nat → Lab} {m : Mc} {st : St} {o : Oper} {a : Act} {L : Lents} {refs : List Nat}
theorem lentOf_mem : ∀ {L : Lents} {r : Root} {i c : Nat}, lentOf r L = some (i, c) → (r, i, c) ∈ L
  | (r', i', c') :: l, r, i, c, h => by
    simp only [lentOf] at h
    split at h
    · rename_i e; simp only [Option.some.injEq, Prod.mk.injEq] at h; obtain ⟨rfl, rfl⟩ := h; subst e; simp
    · exact List.mem_cons_of_mem _ (lentOf_mem h)
theorem lentOf_nodup : ∀ {L : Lents} {r : Root} {i c : Nat}, rootsNodup L = true → (r, i, c) ∈ L → lentOf r L = some (i, c)
  | (r', i', c') :: l, r, i, c, hn, h => by
    simp only [rootsNodup, Bool.and_eq_true, Bool.not_eq_true'] at hn
    simp only [lentOf]
    rcases List.mem_cons.1 h with h | h
    · injection h with h1 h2; injection h2 with h2 h3; subst h1; subst h2; subst h3; simp
    · have := lentOf_nodup hn.2 h
      split
      · rename_i e; subst e; rw [this] at hn; simp at hn
      · exact this
theorem idxOf_nodup {k : Nat} : ∀ {l : List Nat} {j i : Nat}, natsNodup l = true → l[i]? = some k → idxOf k l j = some (j + i)
  | [], j, i, _, h => by simp at h
  | x :: xs, j, i, hn, h => by
    simp only [natsNodup, Bool.and_eq_true, Bool.not_eq_true'] at hn
    simp only [idxOf]
    cases i with
    | zero => simp at h; simp [h]
    | succ i =>
      simp only [List.getElem?_cons_succ] at h
      have hm := List.mem_of_getElem? h
      have hne : x ≠ k := by intro e; subst e; simp [hm] at hn
      rw [if_neg hne, idxOf_nodup hn.2 h]; congr 1; omega
theorem lentsOk_refs (hok : lentsOk L refs = true) {k c : Nat} (hk : (idxOf k refs 0).isSome = true) : lentOf (.ref k c) L = none := by
  simp only [lentsOk, Bool.and_eq_true] at hok
  cases hl : lentOf (.ref k c) L with
  | none => rfl
  | some x =>
    obtain ⟨i, j⟩ := x
    have := List.all_eq_true.1 hok.2 _ (lentOf_mem hl)
    simp only [Bool.not_eq_true'] at this
    rw [hk] at this; simp at this
theorem argCells_sound (h : RR ω m st) (hok : lentsOk L refs = true) (vals : Array Value) {i : Nat} {own : Bool} : ∀ (cs : List Cell) (vs : List Value) (j : Nat), (∀ x ∈ lentsOf st i own j cs, x ∈ L) →
    (∀ r, CRs ω m r j vs cs) → CRs (fun b => fwd L refs (ω b)) (calleeM m refs vals m.w) (.gho i) j vs (argCells st L refs own cs)
  | [], [], j, _, _ => trivial
  | [], _ :: _, j, _, hc => by have := hc .res; simp [CRs] at this
  | _ :: _, [], j, _, hc => by have := hc .res; simp [CRs] at this
  | c :: cs, v :: vs, j, hL, hc => by
    have hrest := argCells_sound h hok vals (i := i) (own := own) cs vs (j + 1) (fun x hx => hL x (by simp only [lentsOf, List.mem_append]; exact .inr hx)) (fun r => (hc r).2)
    have hcc : ∀ r, CRx ω m c r v := fun r => (hc (fun _ => r)).1
    refine ⟨?_, hrest⟩
    have plain : CRx (fun b => fwd L refs (ω b)) (calleeM m refs vals m.w) (roCell st L refs c) (.gho i j) v := roCell_sound h vals c (.res 0) _ v hcc
    cases own with
    | false => exact plain
    | true =>
      cases c with
      | al p =>
        obtain ⟨r, p⟩ := p
        cases p with
        | cons _ _ => exact plain
        | nil =>
          simp only
          split
          · rename_i sz rows hroot
            have hmem : (r, i, j) ∈ L := hL _ (by simp [lentsOf])
            simp only [lentsOk, Bool.and_eq_true] at hok
            have hlo := lentOf_nodup hok.1.1 hmem
            have hrd := h.at (p := ⟨r, []⟩) (v := v) (sz := sz) (rows := rows) (by simp [rowsAt, hroot, pathRows]) (hcc (.res 0)).1
            exact rd_carry _ _ _ _ (fun q ad k arr elem fz hh hq => ⟨hh, by
              obtain ⟨a1, a2, a3⟩ := hq
              refine ⟨?_, a2, a3⟩
              simp only [List.nil_append] at a1 ⊢
              simp only [a1, fwd, hlo]⟩) hrd
          · trivial
      | _ => exact plain
theorem callArgs_get : ∀ (xs : List (Bool × SV)) (i : Nat), (callArgs st L refs xs)[i]? = (xs[i]?).map fun x => ⟨x.2.sh, argCells st L refs x.1 x.2.cs⟩
  | [], i => by simp [callArgs]
  | (own, x) :: xs, i => by
    cases i with
    | zero => simp [callArgs]
    | succ i => simp [callArgs, callArgs_get xs i]
theorem allLents_mem : ∀ (xs : List (Bool × SV)) (j i : Nat) (own : Bool) (x : SV), xs[i]? = some (own, x) → ∀ y ∈ lentsOf st (j + i) own 0 x.cs, y ∈ allLents st j xs
  | [], j, i, own, x, h, _, _ => by simp at h
  | (o', x') :: xs, j, i, own, x, h, y, hy => by
    simp only [allLents, List.mem_append]
    cases i with
    | zero => simp at h; obtain ⟨rfl, rfl⟩ := h; exact .inl hy
    | succ i =>
      simp only [List.getElem?_cons_succ] at h
      exact .inr (allLents_mem xs (j + 1) i own x h y (by rwa [show j + 1 + i = j + (i + 1) by omega]))
theorem callRefs_get : ∀ {refs : List Nat} {j : Nat} {rf : Refs}, callRefs st j refs = some rf → ∀ (k' : Nat) cs', lookR rf k' = some cs' →
    ∃ i k cs, k' = KEY + (j + i) ∧ refs[i]? = some k ∧ lookR st.rf k = some cs ∧ cs' = cs.map refCell
  | [], j, rf, h, k', cs', hl => by simp only [callRefs, Option.some.injEq] at h; subst h; simp [lookR] at hl
  | k :: ks, j, rf, h, k', cs', hl => by
    simp only [callRefs] at h
    split at h
    · rename_i cs l h1 h2
      simp only [Option.some.injEq] at h; subst h
      simp only [lookR] at hl
      split at hl
      · rename_i e; simp only [Option.some.injEq] at hl; exact ⟨0, k, cs, by omega, rfl, h1, hl.symm⟩
      · obtain ⟨i, k2, cs2, e1, e2, e3, e4⟩ := callRefs_get h2 k' cs' hl
        exact ⟨i + 1, k2, cs2, by omega, by simpa using e2, e3, e4⟩
    · simp at h
theorem argCells_places (own : Bool) : ∀ (cs : List Cell), ∀ c ∈ argCells st L refs own cs, c.places = [] ∨ True := fun _ _ _ => .inr trivial
mutual
theorem roCell_places : ∀ (c : Cell), (roCell st L refs c).places = []
  | .undef => rfl
  | .int _ _ => rfl
  | .bool _ => rfl
  | .str _ => rfl
  | .own sz rows => by cases rows <;> rfl
  | .ro _ _ => rfl
  | .al p => by simp only [roCell]; split; rfl; split <;> rfl
  | .ptr k o => by simp only [roCell]; split <;> rfl
  | .eptr _ _ => rfl
  | .rptr _ => rfl
  | .st cs => by simp only [roCell, Cell.places]; exact roCells_places cs
  | .fn f fi ca => by simp only [roCell, Cell.places, roCells_places fi, roCells_places ca, List.append_nil]
theorem roCells_places : ∀ (cs : List Cell), placesL (roCells st L refs cs) = []
  | [] => rfl
  | c :: cs => by simp only [roCells, placesL, roCell_places c, roCells_places cs, List.append_nil]
end
theorem argCells_noplaces (own : Bool) : ∀ (cs : List Cell), ∀ c ∈ argCells st L refs own cs, c.places = []
  | [], _, h => by simp [argCells] at h
  | c :: cs, d, h => by
    simp only [argCells] at h
    rcases List.mem_cons.1 h with rfl | h
    · split
      · split <;> rfl
      · exact roCell_places c
    · exact argCells_noplaces own cs d h
theorem start_sound {args : List (Bool × SV)} {vals : Array Value} {rf : Refs} (h : RR ω m st) (hsz : vals.size = args.length)
    (hv : ∀ i own x, args[i]? = some (own, x) → ∀ r, SVR ω m r (vals.getD i undef) x) (hL : L = allLents st 0 args)
    (hok : lentsOk L refs = true) (hrf : callRefs st 0 refs = some rf) :
    vals.size = (callArgs st L refs args).length ∧
    RR (fun b => fwd L refs (ω b)) (calleeM m refs vals m.w) ⟨[], rf, argSlots 0 (callArgs st L refs args)⟩ := by
  have hcal : ∀ (xs : List (Bool × SV)), (callArgs st L refs xs).length = xs.length := by
    intro xs
    induction xs with
    | nil => rfl
    | cons x xs ih => obtain ⟨o, x⟩ := x; simp [callArgs, ih]
  refine ⟨by simp [hcal, hsz], ?_⟩
  have hnd : natsNodup refs = true := by simp only [lentsOk, Bool.and_eq_true] at hok; exact hok.1.2
  refine ⟨⟨fun s => SVR_no rfl, fun i => ?_, fun k' cs' hk => ?_⟩, fun r p hp => ?_⟩
  · simp only [look_argSlots, Nat.zero_le, if_true, Nat.sub_zero, callArgs_get]
    cases hx : args[i]? with
    | none => simp only [Option.map_none, Option.getD_none]; exact SVR_no rfl
    | some x =>
      obtain ⟨own, x⟩ := x
      have hv' : (calleeM m refs vals m.w).G.getD i undef = vals.getD i undef := rfl
      rw [hv']
      simp only [Option.map_some, Option.getD_some]
      by_cases hs : x.sh = .no
      · exact SVR_no hs
      · have hev := fun r => (SVR_iff hs).1 (hv i own x hx r)
        refine (SVR_iff (x := ⟨x.sh, argCells st L refs own x.cs⟩) hs).2 ⟨(hev .res).1, ?_⟩
        exact argCells_sound h hok _ _ _ 0 (fun y hy => by rw [hL]; exact allLents_mem args 0 i own x hx y (by simpa using hy)) (fun r => (hev r).2)
  · obtain ⟨i, k, cs, rfl, h2, h3, rfl⟩ := callRefs_get hrf k' cs' hk
    have hidx : idxOf k refs 0 = some i := by simpa using idxOf_nodup (j := 0) hnd h2
    obtain ⟨arr, elem, h4, h5, h6⟩ := h.r.rf k cs h3
    simp only [Nat.zero_add] at hk ⊢
    have hrb := rb_callee (m := m) (vals := vals) (w := m.w) hidx
    rw [hrb]
    refine ⟨arr, elem, h4, by simp [h5, fwd, hidx], ?_⟩
    rw [CRs_iff] at h6 ⊢
    refine ⟨by simpa using h6.1, fun j v c hv hc => ?_⟩
    simp only [List.getElem?_map, Option.map_eq_some_iff] at hc
    obtain ⟨c0, hc0, rfl⟩ := hc
    have hcr := h6.2 j v c0 hv hc0
    simp only [Nat.zero_add] at hcr ⊢
    cases c0 with
    | own sz rows =>
      refine rd_carry _ _ _ _ (fun q ad k2 arr2 elem2 fz hh hq => ⟨hh, ?_⟩) hcr
      obtain ⟨a1, a2, a3⟩ := hq
      refine ⟨?_, a2, a3⟩
      simp only [List.nil_append] at a1 ⊢
      simp only [a1, fwd, lentsOk_refs hok (k := k) (c := j) (by rw [hidx]; rfl), hidx]
    | ro sz rows => exact rd_carry _ _ _ _ (fun q ad k2 arr2 elem2 fz hh hq => ⟨hh, by simp only [Qro] at hq ⊢; rw [hq]; rfl⟩) hcr
    | int k n => exact hcr
    | bool b => exact hcr
    | str s => exact hcr
    | _ => trivial
  · exfalso
    cases r with
    | slot s c => simp [rootCell, look, SV.get, Cell.places] at hp
    | res c => simp [rootCell, Cell.places] at hp
    | gho i c =>
      simp only [rootCell, look_argSlots, Nat.zero_le, if_true, Nat.sub_zero, callArgs_get] at hp
      cases hx : args[i]? with
      | none => simp [hx, SV.get, Cell.places] at hp
      | some x =>
        simp only [hx, Option.map_some, Option.getD_some] at hp
        by_cases hu : SV.get (⟨x.2.sh, argCells st L refs x.1 x.2.cs⟩ : SV) c = .undef
        · rw [hu] at hp; simp [Cell.places] at hp
        · have := argCells_noplaces (st := st) (L := L) (refs := refs) x.1 _ _ (SV.get_mem hu)
          rw [this] at hp; simp at hp
    | ref k c =>
      simp only [rootCell] at hp
      cases hl : lookR rf k with
      | none => simp [hl, Cell.places] at hp
      | some cs' =>
        obtain ⟨i, k0, cs, _, _, _, rfl⟩ := callRefs_get hrf k cs' hl
        simp only [hl, List.getElem?_map] at hp
        cases hc : cs[c]? with
        | none => simp [hc, Cell.places] at hp
        | some c0 =>
          simp only [hc, Option.map_some, Option.getD_some] at hp
          cases c0 <;> simp [refCell, Cell.places] at hp
end
def hitL (L : Lents) (refs : List Nat) (c : Cell) : Bool := c.places.any fun p => badRoot L refs p.r
def dropL : Lents → St → St
  | [], s => s
  | (r, _, _) :: l, s => dropL l (setRoot s r .undef)
def backL (args' : List SV) : Lents → St → St
  | [], s => s
  | (r, i, c) :: l, s => backL args' l (setRoot s r (backCell (((args'[i]?).getD .undef).get c)))
def backR (refs : List Nat) (rf' : Refs) : Refs → Refs
  | [] => []
  | (k, cs) :: l => (match idxOf k refs 0 with
    | some j => (k, match lookR rf' (KEY + j) with
      | some cs' => cs'.map backCell
      | none => cs)
    | none => (k, cs)) :: backR refs rf' l
def delL (refs : List Nat) : Refs → Refs
  | [] => []
  | (k, cs) :: l => if (idxOf k refs 0).isSome then delL refs l else (k, cs) :: delL refs l
def SV.fresh (x : SV) : Bool := x.cs.all fun c => match c with
  | .int _ _ => true
  | .bool _ => true
  | .str _ => true
  | .own _ _ => true
  | _ => false
def afterSt (st : St) (L : Lents) (refs : List Nat) (args' : List SV) (rf' : Refs) : St :=
  match L, refs with
  | [], [] => st
  | _, _ =>
    let s1 := (dropL L st).filt (hitL L refs)
    backL args' L { s1 with rf := backR refs rf' s1.rf }
section
variable {P : Program} {ω : Nat → Lab} {m : Mc} {st : St} {o : Oper} {a : Act} {L : Lents} {refs : List Nat}
theorem lookR_backR {rf' : Refs} : ∀ (l : Refs) (k : Nat), lookR (backR refs rf' l) k = match lookR l k with
    | some cs => match idxOf k refs 0 with
      | some j => match lookR rf' (KEY + j) with
        | some cs' => some (cs'.map backCell)
        | none => some cs
      | none => some cs
    | none => none
  | [], k => rfl
  | (k', cs) :: l, k => by
    simp only [backR]
    have ih := lookR_backR (rf' := rf') l k
    by_cases h : k' = k
    · subst h
      cases hi : idxOf k' refs 0 with
      | none => simp [lookR]
      | some j => simp only [lookR, if_true]; cases lookR rf' (KEY + j) <;> rfl
    · cases hi : idxOf k' refs 0 with
      | none => simp only [lookR, h, if_false]; exact ih
      | some j => simp only [lookR, h, if_false]; exact ih
theorem lookR_delL : ∀ (l : Refs) (k : Nat), lookR (delL refs l) k = if (idxOf k refs 0).isSome then none else lookR l k
  | [], k => by simp [delL, lookR]
  | (k', cs) :: l, k => by
    have ih := lookR_delL l k
    simp only [delL]
    by_cases h : k' = k
    · subst h
      by_cases h2 : (idxOf k' refs 0).isSome = true
      · simp only [h2, if_true, ih]
      · simp [h2, lookR]
    · by_cases h2 : (idxOf k' refs 0).isSome = true
      · simp only [h2, if_true, lookR, h, if_false]; exact ih
      · simp only [h2, Bool.false_eq_true, if_false, lookR, h, if_false]; exact ih
theorem R_dropL : ∀ {L : Lents} {s : St}, R ω m s → R ω m (dropL L s)
  | [], _, h => h
  | (r, _, _) :: l, _, h => by simp only [dropL]; exact R_dropL (h.drop r)
theorem dropL_root : ∀ {L : Lents} {s : St} {r : Root}, (lentOf r L).isSome = false → rootCell (dropL L s) r = rootCell s r
  | [], _, _, _ => rfl
  | (r', i, c) :: l, s, r, h => by
    simp only [lentOf] at h
    split at h
    · simp at h
    · rename_i hne
      simp only [dropL]
      rw [dropL_root h, rootCell_setRoot, if_neg (fun e => hne e.1)]
theorem rootCell_dropL : ∀ {L : Lents} {s : St} {r : Root}, rootCell (dropL L s) r ≠ .undef → rootCell (dropL L s) r = rootCell s r ∧ (lentOf r L).isSome = false
  | [], s, r, h => ⟨rfl, rfl⟩
  | (r', i, c) :: l, s, r, h => by
    simp only [dropL] at h ⊢
    obtain ⟨h1, h2⟩ := rootCell_dropL h
    rw [h1] at h ⊢
    rw [rootCell_setRoot] at h ⊢
    split at h
    · exact absurd rfl h
    · rename_i hh
      rw [if_neg hh]
      refine ⟨rfl, ?_⟩
      simp only [lentOf]
      split
      · rename_i e
        subst e
        have : hasRoot s r' = true := hasRoot_of_cell h
        exact absurd ⟨rfl, this⟩ hh
      · exact h2
theorem sl_dropL : ∀ {L : Lents} {s : St}, (∀ k, (lookR (dropL L s).rf k).isSome = (lookR s.rf k).isSome)
  | [], s, k => rfl
  | (r, _, _) :: l, s, k => by
    simp only [dropL]
    rw [sl_dropL k]
    cases r with
    | ref k' c => simp only [setRoot, lookR_updR]; split <;> cases lookR s.rf k <;> rfl
    | _ => rfl
theorem R_backL {args' : List SV} : ∀ {L : Lents} {s : St}, R ω m s → (∀ r i c, (r, i, c) ∈ L → ∀ v, hdR m r = some v → CR ω m r v (backCell (((args'[i]?).getD .undef).get c))) → R ω m (backL args' L s)
  | [], _, h, _ => h
  | (r, i, c) :: l, _, h, hx => by simp only [backL]; exact R_backL (h.setRoot (hx r i c (by simp))) (fun r' i' c' hm => hx r' i' c' (by simp [hm]))
theorem backCell_places (c : Cell) : (backCell c).places = [] := by cases c <;> rfl
theorem backL_places {args' : List SV} : ∀ {L : Lents} {s : St} {r : Root} {p : Pl}, p ∈ (rootCell (backL args' L s) r).places → p ∈ (rootCell s r).places
  | [], _, _, _, h => h
  | (r', i, c) :: l, s, r, p, h => by
    simp only [backL] at h
    have := backL_places h
    rw [rootCell_setRoot] at this
    split at this
    · rw [backCell_places] at this; simp at this
    · exact this
theorem backL_root {args' : List SV} : ∀ {L : Lents} {s : St} {r : Root}, (lentOf r L).isSome = false → rootCell (backL args' L s) r = rootCell s r
  | [], _, _, _ => rfl
  | (r', i, c) :: l, s, r, h => by
    simp only [lentOf] at h
    split at h
    · simp at h
    · rename_i hne
      simp only [backL]
      rw [backL_root h, rootCell_setRoot, if_neg (fun e => hne e.1)]
theorem lentAt_of : ∀ {L : Lents} {r : Root} {i c : Nat}, (r, i, c) ∈ L → ∃ r', lentAt i c L = some r'
  | (r', i', c') :: l, r, i, c, h => by
    simp only [lentAt]
    by_cases e : i' = i ∧ c' = c
    · exact ⟨r', by rw [if_pos e]⟩
    · rw [if_neg e]
      rcases List.mem_cons.1 h with h | h
      · injection h with h1 h2; injection h2 with h2 h3; exact absurd ⟨h2.symm, h3.symm⟩ e
      · exact lentAt_of h
def cellsNodup : Lents → Bool
  | [] => true
  | (_, i, c) :: l => !(lentAt i c l).isSome && cellsNodup l
theorem lentAt_nodup : ∀ {L : Lents} {r : Root} {i c : Nat}, cellsNodup L = true → (r, i, c) ∈ L → lentAt i c L = some r
  | (r', i', c') :: l, r, i, c, hn, h => by
    simp only [cellsNodup, Bool.and_eq_true, Bool.not_eq_true'] at hn
    simp only [lentAt]
    rcases List.mem_cons.1 h with h | h
    · injection h with h1 h2; injection h2 with h2 h3; subst h1; subst h2; subst h3; simp
    · have := lentAt_nodup hn.2 h
      split
      · rename_i e; obtain ⟨rfl, rfl⟩ := e; rw [this] at hn; simp at hn
      · exact this
def backLab (ω ω' : Nat → Lab) (w : World) (d : Nat) (L : Lents) (refs : List Nat) : Nat → Lab := fun b =>
  if (w.heap[b]?).isSome = true ∧ fwd L refs (ω b) = .frame then ω b else bwd d L refs (ω' b)
theorem after_sound {d : Nat} {res : SV} {args' : List SV} {rf rf' : Refs} {vals : Array Value} {w' : World} {ω' : Nat → Lab} {v : Value} (h : RR ω m st)
    (hok : lentsOk L refs = true) (hcn : cellsNodup L = true) (hfresh : res.fresh = true)
    (hval : ∀ r i c, (r, i, c) ∈ L → hdR m r = (flatV (vals.getD i undef))[c]?) (hLown : ∀ r i c, (r, i, c) ∈ L → (rootCell st r).isOwn = true)
    (hrf : callRefs st 0 refs = some rf) (hrf' : ∀ j, j < refs.length → (lookR rf' (KEY + j)).isSome = true)
    (hR : RR ω' (calleeM m refs vals w') ⟨[], rf', argSlots 0 args'⟩) (hres : SVR ω' (calleeM m refs vals w') .res v res)
    (hT : Tr (fun b => fwd L refs (ω b)) (calleeM m refs vals m.w) ω' (calleeM m refs vals w')) :
    RR (backLab ω ω' m.w d L refs) { m with w := w' } (afterSt st L refs args' rf') ∧ SVR (backLab ω ω' m.w d L refs) { m with w := w' } (.slot d) v res ∧
    (∀ s, res.alOk s) ∧ Tr ω m (backLab ω ω' m.w d L refs) { m with w := w' } := by
  have hnd : natsNodup refs = true := by simp only [lentsOk, Bool.and_eq_true] at hok; exact hok.1.2
  -- what is kept
  have hkeep : ∀ l, fwd L refs l = .frame → Stay ω (backLab ω ω' m.w d L refs) m.w w' l := by
    intro l hl b x hx hb
    obtain ⟨h1, h2⟩ := hT.fr b x hx (by simp only [hb, hl])
    refine ⟨h1, ?_⟩
    unfold backLab
    rw [if_pos ⟨by rw [hx]; rfl, by rw [hb, hl]⟩]; exact hb
  -- what the callee had
  have hback : ∀ (b : Nat) (x : Obj), w'.heap[b]? = some x → ∀ l, ω' b = l → l ≠ .frame → backLab ω ω' m.w d L refs b = bwd d L refs l := by
    intro b x hx l hl hne
    unfold backLab
    rw [if_neg, hl]
    rintro ⟨h1, h2⟩
    obtain ⟨y, hy⟩ := Option.isSome_iff_exists.1 h1
    have := (hT.fr b y hy h2).2
    rw [hl] at this; exact hne this
  have hTr : Tr ω m (backLab ω ω' m.w d L refs) { m with w := w' } := ⟨hT.os, hT.tape, hT.output, hT.size, hkeep .frame rfl, rfl, rfl, fun _ _ => rfl⟩
  -- the parts that were not lent
  have hplace : ∀ (p : Pl), badRoot L refs p.r = false → (∀ v0, hdR m p.r = some v0 → (rootCell st p.r).isOwn = true → hdR { m with w := w' } p.r = some v0) := by
    intro p hp v0 hv0 ho
    cases hr : p.r with
    | slot _ _ => rw [hr] at hv0; exact hv0
    | gho _ _ => rw [hr] at hv0; exact hv0
    | res _ => rw [hr] at hv0; exact hv0
    | ref k c =>
      rw [hr] at hv0 hp ho
      have hsome : ∃ cs', lookR st.rf k = some cs' := by
        simp only [rootCell] at ho
        cases hl : lookR st.rf k with
        | none => simp [hl, Cell.isOwn] at ho
        | some cs' => exact ⟨cs', rfl⟩
      obtain ⟨cs', hcs'⟩ := hsome
      obtain ⟨arr, elem, h1, h2, _⟩ := h.r.rf k cs' hcs'
      simp only [badRoot, Bool.or_eq_false_iff] at hp
      have hnone : idxOf k refs 0 = none := by
        cases hi : idxOf k refs 0 with
        | none => rfl
        | some j => simp [hi] at hp
      have h3 := (hkeep (.blk k) (by simp [fwd, hnone]) _ _ h1 h2).1
      simp only [hdR] at hv0 ⊢
      rw [h1] at hv0
      rw [h3]; exact hv0
  have hR0 : R ω m { (dropL L st) with rf := delL refs (dropL L st).rf } := by
    have := R_dropL (L := L) h.r
    refine ⟨this.sl, this.gh, fun k cs hk => ?_⟩
    simp only [lookR_delL] at hk
    split at hk
    · simp at hk
    · exact this.rf k cs hk
  have hroot0 : ∀ r, rootCell { (dropL L st) with rf := delL refs (dropL L st).rf } r ≠ .undef → rootCell { (dropL L st) with rf := delL refs (dropL L st).rf } r = rootCell st r ∧ badRoot L refs r = false := by
    intro r hr
    have key : rootCell { (dropL L st) with rf := delL refs (dropL L st).rf } r = rootCell (dropL L st) r ∧ (∀ k c, r = .ref k c → (idxOf k refs 0).isSome = false) := by
      cases r with
      | ref k c =>
        simp only [rootCell, lookR_delL] at hr ⊢
        by_cases hi : (idxOf k refs 0).isSome = true
        · simp [hi] at hr
        · simp only [hi, Bool.false_eq_true, if_false]
          exact ⟨trivial, fun k' c' e => by injection e with e1 e2; subst e1; simpa using hi⟩
      | slot _ _ => exact ⟨rfl, by simp⟩
      | gho _ _ => exact ⟨rfl, by simp⟩
      | res _ => exact ⟨rfl, by simp⟩
    rw [key.1] at hr ⊢
    obtain ⟨h1, h2⟩ := rootCell_dropL hr
    refine ⟨h1, ?_⟩
    simp only [badRoot, h2, Bool.false_or]
    cases r with
    | ref k c => exact key.2 k c rfl
    | _ => rfl
  have hR1 := hR0.move (m' := { m with w := w' }) (ω' := backLab ω ω' m.w d L refs) (hitL L refs) (fun s => .inl rfl) rfl
    (fun r v c hc hne hf hcr => by
      obtain ⟨e1, e2⟩ := hroot0 r (by rw [hc]; exact hne)
      rw [hc] at e1
      have hpl : ∀ p ∈ c.places, badRoot L refs p.r = false := fun p hp => by
        simp only [hitL, List.any_eq_false] at hf
        simpa using hf p hp
      exact hcr.keep (hkeep _ rfl) (fun _ q => hkeep _ (bad_fwd e2 q)) (fun _ _ => rfl)
        (fun p hp => ⟨fun v0 hv0 => hplace p (hpl p hp) v0 hv0 (h.al r p (by rw [← e1]; exact hp)), fun q _ => hkeep _ (bad_fwd (hpl p hp) q)⟩))
    (fun k hk => by
      refine ⟨rfl, fun arr elem hb hh => ?_⟩
      have hnone : idxOf k refs 0 = none := by
        cases hi : idxOf k refs 0 with
        | none => rfl
        | some j => simp [lookR_delL, hi] at hk
      exact hkeep (.blk k) (by simp [fwd, hnone]) _ _ hh hb)
  -- a cell that the callee left
  have hcell : ∀ (r0 r : Root) (v : Value) (c : Cell), (∀ q, bwd d L refs (.at r0 q) = .at r q) → CR ω' (calleeM m refs vals w') r0 v c → CR (backLab ω ω' m.w d L refs) { m with w := w' } r v (backCell c) := by
    intro r0 r v c hq hc
    cases c with
    | own sz rows =>
      refine rd_carry _ _ _ _ (fun q ad k arr elem fz hh hqq => ⟨hh, ?_⟩) hc
      obtain ⟨a1, a2, a3⟩ := hqq
      simp only [List.nil_append] at a1
      exact ⟨by rw [hback _ _ hh _ a1 (by simp), hq]; rfl, a2, a3⟩
    | int k n => exact hc
    | bool b => exact hc
    | str s => exact hc
    | _ => trivial
  -- the structs
  have hR2 : R (backLab ω ω' m.w d L refs) { m with w := w' } { ((dropL L st).filt (hitL L refs)) with rf := backR refs rf' ((dropL L st).filt (hitL L refs)).rf } := by
    refine ⟨fun s => hR1.sl s, fun i => hR1.gh i, fun k cs hk => ?_⟩
    simp only [lookR_backR] at hk
    cases hi : idxOf k refs 0 with
    | none =>
      refine hR1.rf k cs ?_
      simp only [St.filt, lookR_mapR, lookR_delL, hi, Option.isSome_none, Bool.false_eq_true, if_false] at hk ⊢
      cases hl : lookR (dropL L st).rf k with
      | none => simp [hl] at hk
      | some cs0 => simpa [hl] using hk
    | some j =>
      obtain ⟨_, hj⟩ := idxOf_get hi
      simp only [Nat.sub_zero] at hj
      have hjl : j < refs.length := (List.getElem?_eq_some_iff.1 hj).1
      obtain ⟨cs', hcs'⟩ := Option.isSome_iff_exists.1 (hrf' j hjl)
      obtain ⟨arr, elem, h1, h2, h3⟩ := hR.r.rf (KEY + j) cs' hcs'
      rw [rb_callee hi] at h1 h2
      simp only [hi, hcs'] at hk
      split at hk
      · simp only [Option.some.injEq] at hk; subst hk
        refine ⟨arr, elem, h1, ?_, ?_⟩
        · rw [hback _ _ h1 _ h2 (by simp)]
          simp [bwd, hj]
        · rw [CRs_iff] at h3 ⊢
          refine ⟨by simpa using h3.1, fun i u c hu hc => ?_⟩
          simp only [List.getElem?_map, Option.map_eq_some_iff] at hc
          obtain ⟨c0, hc0, rfl⟩ := hc
          have := h3.2 i u c0 hu hc0
          simp only [Nat.zero_add] at this ⊢
          exact hcell (.ref (KEY + j) i) (.ref k i) u c0 (fun q => by simp [bwd, hj]) this
      · simp at hk
  -- what was handed over
  have hR3 := R_backL (args' := args') (L := L) hR2 (fun r i c hm u hu => by
    have hu0 : hdR m r = some u := by
      cases r with
      | slot _ _ => exact hu
      | gho _ _ => exact hu
      | res _ => exact hu
      | ref k c' =>
        have ho := hLown _ _ _ hm
        obtain ⟨cs0, hcs0⟩ : ∃ cs', lookR st.rf k = some cs' := by
          simp only [rootCell] at ho
          cases hl : lookR st.rf k with
          | none => simp [hl, Cell.isOwn] at ho
          | some cs' => exact ⟨cs', rfl⟩
        obtain ⟨arr, elem, e1, e2, _⟩ := h.r.rf k cs0 hcs0
        have e3 : idxOf k refs 0 = none := by
          cases hi : idxOf k refs 0 with
          | none => rfl
          | some j =>
            have h4 := lentsOk_refs hok (c := c') (by rw [hi]; rfl)
            have h5 := lentOf_nodup (by simp only [lentsOk, Bool.and_eq_true] at hok; exact hok.1.1) hm
            rw [h4] at h5; simp at h5
        have h3 := (hkeep (.blk k) (by simp [fwd, e3]) _ _ e1 e2).1
        simp only [hdR] at hu ⊢
        rw [h3] at hu
        rw [e1]; exact hu
    rw [hval r i c hm] at hu0
    by_cases hne : ((args'[i]?).getD .undef).get c = .undef
    · rw [hne]; trivial
    · have hg := hR.r.gh i
      simp only [look_argSlots, Nat.zero_le, if_true, Nat.sub_zero] at hg
      obtain ⟨u', hu', hcr⟩ := SVR_get hg hne
      have : u' = u := by
        have e : (calleeM m refs vals w').G.getD i undef = vals.getD i undef := rfl
        rw [e, hu0] at hu'; injection hu' with hu'; exact hu'.symm
      subst this
      exact hcell (.gho i c) r u' _ (fun q => by simp [bwd, lentAt_nodup hcn hm]) hcr)
  have hbackc : ∀ (c : Cell), c ∈ res.cs → backCell c = c ∧ c.places = [] := fun c hc => by
    have := List.all_eq_true.1 hfresh c hc
    cases c <;> first | exact ⟨rfl, rfl⟩ | simp at this
  have hresV : SVR (backLab ω ω' m.w d L refs) { m with w := w' } (.slot d) v res := by
    by_cases hs : res.sh = .no
    · exact SVR_no hs
    · rw [SVR_iff hs] at hres ⊢
      refine ⟨hres.1, ?_⟩
      have := hres.2
      rw [CRs_iff] at this ⊢
      refine ⟨this.1, fun i u c hu hc => ?_⟩
      have h1 := hcell (.res (0 + i)) (.slot d (0 + i)) u c (fun q => rfl) (this.2 i u c hu hc)
      rw [(hbackc c (List.mem_of_getElem? hc)).1] at h1
      exact h1
  have hresA : ∀ s, res.alOk s := fun s => SV.alOk_of (fun c hc p hp => by rw [(hbackc c hc).2] at hp; simp at hp)
  refine ⟨?_, hresV, hresA, hTr⟩
  unfold afterSt
  split
  · have h0 : ∀ l, fwd [] [] l = .frame := by
      intro l
      cases l with
      | «at» r q => cases r <;> simp [fwd, lentOf, idxOf]
      | blk k => simp [fwd, idxOf]
      | _ => rfl
    have := h.ext (ω' := backLab ω ω' m.w d [] []) (w' := w') (fun b x hx => by
      refine ⟨(hkeep (ω b) (h0 _) b x hx rfl).1, ?_⟩
      unfold backLab
      rw [if_pos ⟨by rw [hx]; rfl, h0 _⟩])
    exact this
  · refine ⟨hR3, ?_⟩
    intro r p hp
    have h1 := backL_places hp
    have h2 : p ∈ (rootCell ((dropL L st).filt (hitL L refs)) r).places := by
      cases r with
      | ref k c =>
        simp only [rootCell, lookR_backR] at h1 ⊢
        cases hl : lookR ((dropL L st).filt (hitL L refs)).rf k with
        | none => simp [hl] at h1; exact absurd h1 (by simp [Cell.places])
        | some cs =>
          simp only [hl] at h1
          cases hi : idxOf k refs 0 with
          | none => simpa [hi] using h1
          | some j =>
            obtain ⟨_, hj⟩ := idxOf_get hi
            simp only [Nat.sub_zero] at hj
            have hjl : j < refs.length := (List.getElem?_eq_some_iff.1 hj).1
            obtain ⟨cs', hcs'⟩ := Option.isSome_iff_exists.1 (hrf' j hjl)
            simp only [hi, hcs', List.getElem?_map] at h1
            cases hg : cs'[c]? with
            | none => simp [hg, Cell.places] at h1
            | some c0 => simp [hg, backCell_places] at h1
      | slot _ _ => exact h1
      | gho _ _ => exact h1
      | res _ => exact h1
    rw [rootCell_filt] at h2
    obtain ⟨hf, h3⟩ := Cell.filt_place h2
    have hb : badRoot L refs p.r = false := by
      simp only [hitL, List.any_eq_false] at hf
      simpa using hf p h3
    have hne : rootCell (dropL L st) r ≠ .undef := by intro e; rw [e] at h3; simp [Cell.places] at h3
    rw [(rootCell_dropL hne).1] at h3
    have ho := h.al r p h3
    simp only [badRoot, Bool.or_eq_false_iff] at hb
    rw [backL_root hb.1]
    have h5 : rootCell ((dropL L st).filt (hitL L refs)) p.r = rootCell st p.r := by
      rw [rootCell_filt, dropL_root hb.1]
      unfold Cell.filt
      rw [if_neg]
      intro e
      simp only [hitL] at e
      cases hc : rootCell st p.r <;> simp [hc, Cell.isOwn] at ho
      simp [hc, Cell.places] at e
    rw [← h5] at ho
    cases hr : p.r with
    | ref k c =>
      rw [hr] at ho hb
      have hi : idxOf k refs 0 = none := by
        cases hi : idxOf k refs 0 with
        | none => rfl
        | some j => simp [hi] at hb
      simp only [rootCell, lookR_backR, hi] at ho ⊢
      cases hl : lookR ((dropL L st).filt (hitL L refs)).rf k <;> simpa [hl] using ho
    | slot _ _ => rw [hr] at ho; exact ho
    | gho _ _ => rw [hr] at ho; exact ho
    | res _ => rw [hr] at ho; exact ho
end
abbrev Env := FuncId → List SV → Refs → Option (SV × List SV × Refs)
def Callable (P : Program) (f : FuncId) : Prop := ∃ fn, P.funcs[f]? = some fn ∧ fn.body.isNone = false ∧ (fn.name == "runtime.NumGoroutine") = false
def EnvOk (P : Program) (E : Env) : Prop := ∀ f args rf res args' rf', E f args rf = some (res, args', rf') → Callable P f ∧ Good P f args rf res args' rf'
def SV.known (x : SV) : Bool := match x.sh with
  | .no => false
  | _ => true
def putDst (st : St) (d : Option Nat) (x : SV) : St := match d with
  | some d => putSlot st d x
  | none => st
def refsThere (rf : Refs) : Nat → Nat → Bool
  | _, 0 => true
  | j, n + 1 => (lookR rf (KEY + j)).isSome && refsThere rf (j + 1) n
theorem refsThere_spec {rf : Refs} : ∀ {n j : Nat}, refsThere rf j n = true → ∀ i, i < n → (lookR rf (KEY + (j + i))).isSome = true
  | 0, _, _, i, hi => by omega
  | n + 1, j, h, i, hi => by
    simp only [refsThere, Bool.and_eq_true] at h
    cases i with
    | zero => exact h.1
    | succ i => have := refsThere_spec h.2 i (by omega); rwa [show j + (i + 1) = j + 1 + i by omega]
def callSt (E : Env) (st : St) (d : Option Nat) (f : FuncId) (args : List (Bool × SV)) (refs : List Nat) : Option St :=
  if (lentsOk (allLents st 0 args) refs && cellsNodup (allLents st 0 args)) && args.all (fun x => x.2.known) then
    match callRefs st 0 refs with
    | some rf => match E f (callArgs st (allLents st 0 args) refs args) rf with
      | some (res, args', rf') => if res.fresh && refsThere rf' 0 refs.length then some (putDst (afterSt st (allLents st 0 args) refs args' rf') d res) else none
      | none => none
    | none => none
  else none
section
variable {P : Program} {E : Env} {ω : Nat → Lab} {m : Mc} {st : St} {o : Oper} {a : Act}
theorem lentsOf_mem {i : Nat} {own : Bool} : ∀ {cs : List Cell} {j : Nat} {y : Root × Nat × Nat}, y ∈ lentsOf st i own j cs → ∃ c, y.2.1 = i ∧ y.2.2 = j + c ∧ cs[c]? = some (.al ⟨y.1, []⟩)
  | [], _, _, h => by simp [lentsOf] at h
  | c :: cs, j, y, h => by
    simp only [lentsOf, List.mem_append] at h
    rcases h with h | h
    · split at h
      · simp only [List.mem_singleton] at h; subst h
        exact ⟨0, rfl, rfl, rfl⟩
      · simp at h
    · obtain ⟨k, h1, h2, h3⟩ := lentsOf_mem h
      exact ⟨k + 1, h1, by omega, by simpa using h3⟩
theorem allLents_get : ∀ {xs : List (Bool × SV)} {j : Nat} {y : Root × Nat × Nat}, y ∈ allLents st j xs → ∃ i own x, xs[i]? = some (own, x) ∧ y.2.1 = j + i ∧ x.cs[y.2.2]? = some (.al ⟨y.1, []⟩)
  | [], _, _, h => by simp [allLents] at h
  | (own, x) :: xs, j, y, h => by
    simp only [allLents, List.mem_append] at h
    rcases h with h | h
    · obtain ⟨c, h1, h2, h3⟩ := lentsOf_mem h
      exact ⟨0, own, x, rfl, h1, by rw [h2]; simpa using h3⟩
    · obtain ⟨i, own', x', h1, h2, h3⟩ := allLents_get h
      exact ⟨i + 1, own', x', by simpa using h1, by omega, h3⟩
def COk (P : Program) (ω : Nat → Lab) (m : Mc) (f : FuncId) (vals : Array Value) (d : Option Nat) (st' : St) : Prop :=
  Calls P f vals m.w fun e w' => ∃ v ω', e = .returned v ∧ RR ω' { m with w := w', T := (match d with | some d => m.T.setIfInBounds d v | none => m.T) } st' ∧
    Tr ω m ω' { m with w := w', T := (match d with | some d => m.T.setIfInBounds d v | none => m.T) }
theorem call_sound {d : Option Nat} {f : FuncId} {args : List (Bool × SV)} {refs : List Nat} {vals : Array Value} {st' : St} (hE : EnvOk P E) (h : RR ω m st) (hd : ∀ t, d = some t → t < m.T.size)
    (hsz : vals.size = args.length) (hv : ∀ i own x, args[i]? = some (own, x) → (∀ r, SVR ω m r (vals.getD i undef) x) ∧ x.alOk st)
    (hs : callSt E st d f args refs = some st') : Callable P f ∧ COk P ω m f vals d st' := by
  unfold callSt at hs
  split at hs
  · rename_i hcc
    simp only [Bool.and_eq_true] at hcc
    have hc := hcc.1
    have hv : ∀ i own x, args[i]? = some (own, x) → (∀ r, SVR ω m r (vals.getD i undef) x) ∧ x.alOk st ∧ x.sh ≠ .no := fun i own x hx =>
      ⟨(hv i own x hx).1, (hv i own x hx).2, fun e => by
        have := List.all_eq_true.1 hcc.2 _ (List.mem_of_getElem? hx)
        simp [SV.known, e] at this⟩
    split at hs
    · rename_i rf hrf
      split at hs
      · rename_i res args' rf' hEE
        split at hs
        · rename_i hfr
          simp only [Bool.and_eq_true] at hfr
          simp only [Option.some.injEq] at hs
          have hG := hE _ _ _ _ _ _ hEE
          obtain ⟨h1, h2⟩ := start_sound h hsz (fun i own x hx => (hv i own x hx).1) rfl hc.1 hrf
          refine ⟨hG.1, Calls.mono (hG.2 m.w _ _ vals h1 h2) ?_⟩
          rintro e w' ⟨v, ω', rfl, h3, h4, h5⟩
          have hal : ∀ y ∈ allLents st 0 args, ∃ i own x, args[i]? = some (own, x) ∧ y.2.1 = i ∧ x.get y.2.2 = .al ⟨y.1, []⟩ := fun y hy => by
            obtain ⟨i, own, x, h6, h7, h8⟩ := allLents_get hy
            refine ⟨i, own, x, h6, by omega, ?_⟩
            have hne := (hv i own x h6).2.2
            unfold SV.get
            split
            · contradiction
            · rw [h8]; rfl
          obtain ⟨h6, h7, h8, h9⟩ := after_sound (d := d.getD m.T.size) (args' := args') (rf' := rf') (vals := vals) (v := v) h hc.1 hc.2 hfr.1
            (fun r i c hm => by
              obtain ⟨i', own, x, e1, e2, e3⟩ := hal _ hm
              simp only at e2 e3; subst e2
              obtain ⟨u, hu, hcr⟩ := SVR_get ((hv _ own x e1).1 .res) (c := c) (by rw [e3]; simp)
              rw [e3] at hcr
              obtain ⟨⟨v0, hh, hp⟩, _⟩ := hcr
              simp only [onPath] at hp
              rw [hh, hp]; exact hu.symm)
            (fun r i c hm => by
              obtain ⟨i', own, x, e1, e2, e3⟩ := hal _ hm
              simp only at e2 e3; subst e2
              exact (hv _ own x e1).2.1 c ⟨r, []⟩ (by rw [e3]; simp [Cell.places]))
            hrf (fun j hj => by simpa using refsThere_spec hfr.2 j hj) h3 (h4 _ rfl) h5
          subst hs
          cases d with
          | none => exact ⟨v, _, rfl, h6, h9⟩
          | some d => exact ⟨v, _, rfl, h6.put (hd d rfl) h7 (h8 _), h9.trans (Tr.put (m := { m with w := w' }) d v)⟩
        · simp at hs
      · simp at hs
    · simp at hs
  · simp at hs
end
def cellSV (c : Cell) : SV := match c with
  | .undef => .undef
  | .st cs => ⟨.agg, cs⟩
  | c => ⟨.one, [c]⟩
def evArgs (st : St) (args : List (Bool × XO)) : List (Bool × SV) := args.map fun x => (x.1, evX st x.2)
def evCaps (cs : List Cell) : List (Bool × SV) := cs.map fun c => (false, cellSV c)
def putQ (st : St) (d : Nat) : Option SV → Option St
  | some x => some (putSlot st d x)
  | none => none
def putA (st : St) (d : Nat) : Option (List Cell) → Option St
  | some cs => some (putSlot st d ⟨.agg, cs⟩)
  | none => none
def step (E : Env) (st : St) (dst : Option Nat) (op : XOp) : Option St :=
  match op with
  | .call f args refs => callSt E st dst f (evArgs st args) refs
  | .callv x args refs => match (evX st x).c1 with
    | .fn (.func f) fi ca => callSt E st dst f (evCaps fi ++ evArgs st args ++ evCaps ca) refs
    | _ => none
  | op => match dst with
    | none => match op with
      | .store n y x tk => storeSt st n y x tk
      | _ => none
    | some d => match op with
      | .asg x tk => asgSt st d x tk
      | .alloc cs => some (allocSt st d cs)
      | .box x tk => boxSt st d x tk
      | .build zero parts => putA st d (buildCells st zero parts)
      | .bslice sz parts => bsliceSt st d sz parts
      | .mks sz bytes zero l => mksSt st d sz bytes zero l
      | .slcO sz x lo hi => slcOSt st d sz x lo hi
      | .app sz bytes x y nested => appSt st d sz bytes x y nested
      | op => putQ st d (qop st op)
def zeroIs (P : Program) (t : TypeId) (chk : TypeInfo → Value → Bool) : Bool := match P.info? t with
  | some i => match i.zero with
    | some z => chk i z
    | none => false
  | none => false
def elemIs (P : Program) (t : TypeId) (chk : TypeInfo → Value → Bool) : Bool := match P.underlying t with
  | some (.slice e) => zeroIs P e chk
  | _ => false
theorem zeroIs_spec {P : Program} {t : TypeId} {chk : TypeInfo → Value → Bool} (h : zeroIs P t chk = true) : ∃ i z, P.info? t = some i ∧ i.zero = some z ∧ chk i z = true := by
  unfold zeroIs at h
  split at h
  · rename_i i hi
    split at h
    · rename_i z hz; exact ⟨i, z, hi, hz, h⟩
    · simp at h
  · simp at h
theorem elemIs_spec {P : Program} {t : TypeId} {chk : TypeInfo → Value → Bool} (h : elemIs P t chk = true) : ∃ e i z, P.underlying t = some (.slice e) ∧ P.info? e = some i ∧ i.zero = some z ∧ chk i z = true := by
  unfold elemIs at h
  split at h
  · rename_i e he; obtain ⟨i, z, h1, h2, h3⟩ := zeroIs_spec h; exact ⟨e, i, z, he, h1, h2, h3⟩
  · simp at h
def callableB (P : Program) (f : FuncId) : Bool := match P.funcs[f]? with
  | some fn => !fn.body.isNone && !(fn.name == "runtime.NumGoroutine")
  | none => false
def mE (P : Program) (o : Oper) : XOp → Bool
  | .asg x tk => match o.op with
    | .assign z => mO z x
    | _ => false
  | .alloc cs => match o.op with
    | .alloc e => zeroIs P e fun _ z => constCs z.cells.toList cs
    | _ => false
  | .box x tk => match o.op with
    | .box _ z => mO z x
    | _ => false
  | .build zero parts => match o.op with
    | .build t ps => (match P.underlying t with
      | some (.struct fs) => fieldsKnown P fs && mFields P fs ps.toList parts
      | _ => false) && zeroIs P t fun _ z => constCs z.cells.toList zero
    | _ => false
  | .bslice sz parts => match o.op with
    | .buildSlice t len ps => mParts ps.toList parts 0 && (len == parts.length) && decide (len * sz ≤ 16777216) && elemIs P t fun i z => i.size == sz && z.cells.size == sz
    | _ => false
  | .mks sz bytes zero l => match o.op with
    | .makeSlice t zl zc => mO zl l && mO zc l && elemIs P t fun i z => i.size == sz && i.bytes == bytes && constDs z.cells.toList zero
    | _ => false
  | .slcO sz x lo hi => match o.op with
    | .slice t zx l h none => mO zx x && mOo l lo && mOo h hi && elemIs P t fun i z => i.size == sz
    | _ => false
  | .app sz bytes x y nested => match o.op with
    | .call { callee := .builtin .append, args, argTypes } => (match args.toList, argTypes.toList with
      | [zx, zy], [t, t'] => mO zx x && mO zy y && (t == t') && elemIs P t fun i z => i.size == sz && i.bytes == bytes && z.cells.size == sz
      | _, _ => false)
    | _ => false
  | .call f args refs => match o.op with
    | .call { callee := .value (.func f'), args := zs, argTypes := _ } => f' == f && mOs zs.toList (args.map (·.2))
    | _ => false
  | .callv x args refs => match o.op with
    | .call { callee := .value z, args := zs, argTypes := _ } => mO z x && mOs zs.toList (args.map (·.2))
    | _ => false
  | .store n y x tk => match o.op with
    | .store t zy zx => mO zy y && mO zx x && (match P.info? t with
      | some i => i.size == n
      | none => false)
    | _ => false
  | op => mQ P o op
section
variable {P : Program} {E : Env} {ω : Nat → Lab} {m : Mc} {st : St} {o : Oper} {a : Act}
theorem mOs_get : ∀ {zs : List Operand} {xs : List XO}, mOs zs xs = true → zs.length = xs.length ∧ ∀ (i : Nat) x, xs[i]? = some x → ∃ z, zs[i]? = some z ∧ mO z x = true
  | [], [], _ => by simp
  | [], _ :: _, h => by simp [mOs] at h
  | _ :: _, [], h => by simp [mOs] at h
  | z :: zs, x :: xs, h => by
    simp only [mOs, Bool.and_eq_true] at h
    obtain ⟨h1, h2⟩ := mOs_get h.2
    refine ⟨by simp [h1], fun i y hy => ?_⟩
    cases i with
    | zero => simp at hy; subst hy; exact ⟨z, rfl, h.1⟩
    | succ i => simp at hy; simpa using h2 i y hy
def Told (ω : Nat → Lab) (m : Mc) (st : St) (vals : List Value) (xs : List (Bool × SV)) : Prop :=
  vals.length = xs.length ∧ ∀ (i : Nat) v own x, vals[i]? = some v → xs[i]? = some (own, x) → (∀ r, SVR ω m r v x) ∧ x.alOk st
theorem Told.append {v1 v2 : List Value} {x1 x2 : List (Bool × SV)} (h1 : Told ω m st v1 x1) (h2 : Told ω m st v2 x2) : Told ω m st (v1 ++ v2) (x1 ++ x2) := by
  refine ⟨by simp [h1.1, h2.1], fun i v own x hv hx => ?_⟩
  by_cases hi : i < v1.length
  · rw [List.getElem?_append_left hi] at hv
    rw [List.getElem?_append_left (by rw [← h1.1]; exact hi)] at hx
    exact h1.2 i v own x hv hx
  · rw [List.getElem?_append_right (by omega)] at hv
    rw [List.getElem?_append_right (by rw [← h1.1]; omega), ← h1.1] at hx
    exact h2.2 _ v own x hv hx
theorem told_args {zs : List Operand} {args : List (Bool × XO)} (h : RR ω m st) (ha : a.tmps = m.T) (hm : mOs zs (args.map (·.2)) = true) : Told ω m st (zs.map a.eval) (evArgs st args) := by
  obtain ⟨h1, h2⟩ := mOs_get hm
  simp only [List.length_map] at h1
  refine ⟨by simp [evArgs, h1], fun i v own x hv hx => ?_⟩
  simp only [evArgs, List.getElem?_map, Option.map_eq_some_iff] at hv hx
  obtain ⟨y, hy, hyx⟩ := hx
  obtain ⟨z, hz, rfl⟩ := hv
  obtain ⟨z', hz', hm'⟩ := h2 i y.2 (by simp [hy])
  rw [hz] at hz'; injection hz' with hz'; subst hz'
  injection hyx with _ e; subst e
  exact ⟨fun r => evX_sound h ha hm' r, evX_alOk h hm'⟩
theorem CRl_get : ∀ {cs : List Cell} {r : Root} {vs : List Value}, CRl ω m cs r vs → vs.length = cs.length ∧ ∀ (i : Nat) v c, vs[i]? = some v → cs[i]? = some c → c.isOwn = false ∧ CRx ω m c r v
  | [], _, vs, h => by simp only [CRl] at h; subst h; simp
  | c :: cs, r, vs, h => by
    obtain ⟨v, rest, rfl, h2, h3, h4⟩ := h
    obtain ⟨h5, h6⟩ := CRl_get h4
    refine ⟨by simp [h5], fun i u d hu hd => ?_⟩
    cases i with
    | zero => simp at hu hd; subst hu; subst hd; exact ⟨h2, h3⟩
    | succ i => simp at hu hd; exact h6 i u d hu hd
theorem placesL_mem : ∀ {cs : List Cell} {c : Cell} {p : Pl}, c ∈ cs → p ∈ c.places → p ∈ placesL cs
  | d :: cs, c, p, h, hp => by
    simp only [placesL, List.mem_append]
    rcases List.mem_cons.1 h with rfl | h
    · exact .inl hp
    · exact .inr (placesL_mem h hp)
theorem cellSV_sound {c : Cell} {r0 : Root} {v : Value} (ho : c.isOwn = false) (h : CRx ω m c r0 v) (r : Nat → Root) : SVR ω m r v (cellSV c) := by
  unfold cellSV
  split
  · exact SVR_no rfl
  · rename_i cs
    obtain ⟨arr, rfl, h2⟩ := h
    obtain ⟨h3, h4⟩ := CRl_get h2
    refine ⟨⟨arr, rfl⟩, ?_⟩
    rw [CRs_iff]
    exact ⟨h3, fun i u d hu hd => CRx_root d _ _ u (h4 i u d hu hd).1 (h4 i u d hu hd).2⟩
  · rename_i h1 h2
    exact one_sound (by cases c <;> first | rfl | (exact absurd rfl h1) | (exact absurd rfl (h2 _))) (CRx_root c _ _ v ho h)
theorem told_caps {cs : List Cell} {r : Root} {vs : List Value} (h : CRl ω m cs r vs) (hp : ∀ p ∈ placesL cs, (rootCell st p.r).isOwn = true) : Told ω m st vs (evCaps cs) := by
  obtain ⟨h1, h2⟩ := CRl_get h
  refine ⟨by simp [evCaps, h1], fun i v own x hv hx => ?_⟩
  simp only [evCaps, List.getElem?_map, Option.map_eq_some_iff] at hx
  obtain ⟨c, hc, e⟩ := hx
  injection e with _ e; subst e
  obtain ⟨h3, h4⟩ := h2 i v c hv hc
  refine ⟨fun r' => cellSV_sound h3 h4 r', SV.alOk_of fun d hd p hpp => hp p (placesL_mem (List.mem_of_getElem? hc) ?_)⟩
  unfold cellSV at hd
  split at hd
  · simp at hd
  · simp only [Cell.places]; exact placesL_mem hd hpp
  · simp only [List.mem_singleton] at hd; subst hd; exact hpp
def XOk (P : Program) (ω : Nat → Lab) (m : Mc) (o : Oper) (a : Act) (st' : St) : Prop :=
  ∀ (next : Act → World → Prop) (Q : Exit → Act → World → Prop), (∀ a' w' ω' rb', a'.defers = a.defers → RR ω' ⟨a'.tmps, m.G, w', rb'⟩ st' → Tr ω m ω' ⟨a'.tmps, m.G, w', rb'⟩ → next a' w') → o.wp P a m.w next Q
theorem XOk.of_e {d : Nat} {st' : St} (ha : a.tmps = m.T) (hd : o.dst = some d) (h : EOk P ω m o a d st') : XOk P ω m o a st' := by
  obtain ⟨v, w', ω', rb', h1, h2, h3⟩ := h
  intro next Q hn
  unfold Oper.wp
  rw [h1, Oper.upon_value, hd]
  exact hn _ _ _ _ rfl (by simpa [Act.put, ha] using h2) (by simpa [Act.put, ha] using h3)
theorem XOk.of_s {st' : St} (ha : a.tmps = m.T) (hd : o.dst = none) (h : SOk P ω m o a st') : XOk P ω m o a st' := by
  obtain ⟨w', ω', h1, h2, h3⟩ := h
  intro next Q hn
  unfold Oper.wp
  rw [h1, Oper.upon_skip, hd]
  exact hn _ _ _ _ rfl (by simpa [Act.put, ha] using h2) (by simpa [Act.put, ha] using h3)
theorem run_callFunc {f : FuncId} {args : Array Value} {w : World} (h : Callable P f) : (callFunc f args).run P w = .ok (.enter f args) w := by
  obtain ⟨fn, h1, h2, h3⟩ := h
  simp only [callFunc, Sem.run_bind, run_program, Result.andThen_ok, h1, h2, h3, Bool.false_eq_true, if_false, Sem.run_pure]
theorem XOk.of_c {st' : St} {f : FuncId} {vals : Array Value} (ha : a.tmps = m.T) (h : COk P ω m f vals o.dst st') (hr : (execOp a.eval o).run P m.w = .ok (.enter f vals) m.w) : XOk P ω m o a st' := by
  intro next Q hn
  unfold Oper.wp
  rw [hr, Oper.upon_enter]
  refine Calls.mono h ?_
  rintro e w' ⟨v, ω', rfl, h2, h3⟩
  cases hd : o.dst with
  | none =>
    rw [hd] at h2 h3
    exact hn _ _ _ _ rfl (by simpa [Act.put, ha] using h2) (by simpa [Act.put, ha] using h3)
  | some d =>
    rw [hd] at h2 h3
    exact hn _ _ _ _ rfl (by simpa [Act.put, ha] using h2) (by simpa [Act.put, ha] using h3)
theorem XOk.call {st' : St} {f : FuncId} {xs : List (Bool × SV)} {vals : List Value} {refs : List Nat} (hE : EnvOk P E) (h : RR ω m st) (ha : a.tmps = m.T) (hd : ∀ t, o.dst = some t → t < m.T.size) (ht : Told ω m st vals xs)
    (hs : callSt E st o.dst f xs refs = some st') (hr : (execOp a.eval o).run P m.w = (callFunc f vals.toArray).run P m.w) : XOk P ω m o a st' := by
  obtain ⟨h1, h2⟩ := call_sound (vals := vals.toArray) hE h hd (by simpa using ht.1) (fun i own x hx => by
    have hi : i < vals.length := by rw [ht.1]; exact (List.getElem?_eq_some_iff.1 hx).1
    have := ht.2 i vals[i] own x (List.getElem?_eq_getElem hi) hx
    have e : vals.toArray.getD i undef = vals[i] := by simp [Array.getD, hi]
    rw [e]; exact this) hs
  exact XOk.of_c ha h2 (by rw [hr]; exact run_callFunc h1)
theorem step_sound {op : XOp} {st' : St} (hE : EnvOk P E) (h : RR ω m st) (ha : a.tmps = m.T) (hm : mE P o op = true) (hd : ∀ t, o.dst = some t → t < m.T.size ∧ t < KEY)
    (hs : step E st o.dst op = some st') : XOk P ω m o a st' := by
  have hd1 : ∀ t, o.dst = some t → t < m.T.size := fun t ht => (hd t ht).1
  have quiet : ∀ (d : Nat), o.dst = some d → mQ P o op = true → putQ st d (qop st op) = some st' → XOk P ω m o a st' := by
    intro d hdd hmq hq
    cases hqq : qop st op with
    | none => simp [hqq, putQ] at hq
    | some y =>
      simp only [hqq, putQ, Option.some.injEq] at hq; subst hq
      exact XOk.of_e ha hdd (EOk.of_q h (hd1 d hdd) (q_sound h ha hmq hqq))
  cases op with
  | call f args refs =>
    simp only [step] at hs
    simp only [mE] at hm
    split at hm
    · rename_i f' zs tys ho
      simp only [Bool.and_eq_true, beq_iff_eq] at hm
      obtain ⟨rfl, hm⟩ := hm
      refine XOk.call hE h ha hd1 (told_args h ha hm) hs ?_
      simp only [execOp, ho, resolve, Act.eval, Deferred.ofValue, pure_bind, invoke]
      congr 2
      apply Array.ext'
      simp
    · simp at hm
  | callv x args refs =>
    simp only [step] at hs
    simp only [mE] at hm
    split at hm
    · rename_i z zs tys ho
      simp only [Bool.and_eq_true] at hm
      obtain ⟨hmx, hm⟩ := hm
      split at hs
      · rename_i f fi ca hc
        have hcc := c1_of h ha hmx hc (by simp) (fun _ => .res 0)
        obtain ⟨⟨fv, cv, hv, h1, h2⟩, hp⟩ := hcc
        simp only [Cell.places, List.mem_append] at hp
        have ht := ((told_caps (st := st) h1 fun p hpp => hp p (.inl hpp)).append (told_args h ha hm)).append (told_caps (st := st) h2 fun p hpp => hp p (.inr hpp))
        refine XOk.call hE h ha hd1 ht hs ?_
        simp only [execOp, ho, resolve, hv, Deferred.ofValue, pure_bind, invoke]
        congr 2
        apply Array.ext'
        simp
      · simp at hs
    · simp at hm
  | store n y x tk =>
    cases hdd : o.dst with
    | some d => simp [step, hdd, qop, putQ] at hs
    | none =>
      simp only [step, hdd] at hs
      simp only [mE] at hm
      split at hm
      · rename_i t zy zx ho
        simp only [Bool.and_eq_true] at hm
        obtain ⟨⟨h1, h2⟩, h3⟩ := hm
        split at h3
        · rename_i i hi
          simp only [beq_iff_eq] at h3
          exact XOk.of_s ha hdd (e_store h ha ho h1 h2 hi h3 hs)
        · simp at h3
      · simp at hm
  | asg x tk =>
    cases hdd : o.dst with
    | none => simp [step, hdd] at hs
    | some d =>
      simp only [step, hdd] at hs
      simp only [mE] at hm
      split at hm
      · rename_i z ho; exact XOk.of_e ha hdd (e_asg h ha (hd1 d hdd) ho hm hs)
      · simp at hm
  | alloc cs =>
    cases hdd : o.dst with
    | none => simp [step, hdd] at hs
    | some d =>
      simp only [step, hdd, Option.some.injEq] at hs; subst hs
      simp only [mE] at hm
      split at hm
      · rename_i e ho
        obtain ⟨i, z, h1, h2, h3⟩ := zeroIs_spec hm
        exact XOk.of_e ha hdd (e_alloc h (hd1 d hdd) (hd d hdd).2 ho h1 h2 h3)
      · simp at hm
  | box x tk =>
    cases hdd : o.dst with
    | none => simp [step, hdd] at hs
    | some d =>
      simp only [step, hdd] at hs
      simp only [mE] at hm
      split at hm
      · rename_i e z ho; exact XOk.of_e ha hdd (e_box h ha (hd1 d hdd) (hd d hdd).2 ho hm hs)
      · simp at hm
  | build zero parts =>
    cases hdd : o.dst with
    | none => simp [step, hdd] at hs
    | some d =>
      simp only [step, hdd] at hs
      cases hb : buildCells st zero parts with
      | none => simp [hb, putA] at hs
      | some cs =>
        simp only [hb, putA, Option.some.injEq] at hs; subst hs
        simp only [mE] at hm
        split at hm
        · rename_i t ps ho
          simp only [Bool.and_eq_true] at hm
          obtain ⟨h1, h2⟩ := hm
          split at h1
          · rename_i fs hu
            simp only [Bool.and_eq_true] at h1
            obtain ⟨i, z, h3, h4, h5⟩ := zeroIs_spec h2
            exact XOk.of_e ha hdd (EOk.of_q h (hd1 d hdd) (q_build h ha ho hu h3 h4 h5 h1.1 h1.2 hb))
          · simp at h1
        · simp at hm
  | bslice sz parts =>
    cases hdd : o.dst with
    | none => simp [step, hdd] at hs
    | some d =>
      simp only [step, hdd] at hs
      simp only [mE] at hm
      split at hm
      · rename_i t len ps ho
        simp only [Bool.and_eq_true, beq_iff_eq, decide_eq_true_eq] at hm
        obtain ⟨⟨⟨h1, h2⟩, h3⟩, h4⟩ := hm
        obtain ⟨e, i, z, h5, h6, h7, h8⟩ := elemIs_spec h4
        simp only [Bool.and_eq_true, beq_iff_eq] at h8
        exact XOk.of_e ha hdd (e_bslice h ha (hd1 d hdd) ho h1 h2 h5 h6 h8.1 h7 h8.2 h3 hs)
      · simp at hm
  | mks sz bytes zero l =>
    cases hdd : o.dst with
    | none => simp [step, hdd] at hs
    | some d =>
      simp only [step, hdd] at hs
      simp only [mE] at hm
      split at hm
      · rename_i t zl zc ho
        simp only [Bool.and_eq_true] at hm
        obtain ⟨⟨h1, h2⟩, h4⟩ := hm
        obtain ⟨e, i, z, h5, h6, h7, h8⟩ := elemIs_spec h4
        simp only [Bool.and_eq_true, beq_iff_eq] at h8
        exact XOk.of_e ha hdd (e_mks h ha (hd1 d hdd) ho h1 h2 h5 h6 h8.1.1 h8.1.2 h7 h8.2 hs)
      · simp at hm
  | slcO sz x lo hi =>
    cases hdd : o.dst with
    | none => simp [step, hdd] at hs
    | some d =>
      simp only [step, hdd] at hs
      simp only [mE] at hm
      split at hm
      · rename_i t zx l hh ho
        simp only [Bool.and_eq_true] at hm
        obtain ⟨⟨⟨h1, h2⟩, h3⟩, h4⟩ := hm
        obtain ⟨e, i, z, h5, h6, h7, h8⟩ := elemIs_spec h4
        simp only [beq_iff_eq] at h8
        exact XOk.of_e ha hdd (e_slcO h ha (hd1 d hdd) ho h1 h2 h3 h5 h6 h8 hs)
      · simp at hm
  | app sz bytes x y nested =>
    cases hdd : o.dst with
    | none => simp [step, hdd] at hs
    | some d =>
      simp only [step, hdd] at hs
      simp only [mE] at hm
      split at hm
      · rename_i args tys ho
        split at hm
        · rename_i zx zy t t' h1 h2
          simp only [Bool.and_eq_true, beq_iff_eq] at hm
          obtain ⟨⟨⟨h3, h4⟩, rfl⟩, h9⟩ := hm
          obtain ⟨e, i, z, h5, h6, h7, h8⟩ := elemIs_spec h9
          simp only [Bool.and_eq_true, beq_iff_eq] at h8
          have e1 : args = #[zx, zy] := Array.ext' h1
          have e2 : tys = #[t, t] := Array.ext' h2
          subst e1; subst e2
          exact XOk.of_e ha hdd (e_app h ha (hd1 d hdd) ho h3 h4 h5 h6 h8.1.1 h8.1.2 h7 h8.2 hs)
        · simp at hm
      · simp at hm
  | _ =>
    cases hdd : o.dst with
    | none => simp [step, hdd] at hs
    | some d => simp only [step, hdd] at hs; simp only [mE] at hm; exact quiet d hdd hm hs
end
def Opt {α : Type} (o : Option α) (K : α → Prop) : Prop := ∃ y, o = some y ∧ K y
theorem Opt_some {α : Type} {y : α} {K : α → Prop} : Opt (some y) K = K y := by simp [Opt]
theorem Opt_none {α : Type} {K : α → Prop} : Opt none K = False := by simp [Opt]
theorem Opt_if {α : Type} {c : Prop} [Decidable c] {x y : Option α} {K : α → Prop} (hc : c) (h : Opt x K) : Opt (if c then x else y) K := by rw [if_pos hc]; exact h
theorem Opt_mono {α : Type} {o : Option α} {K1 K2 : α → Prop} (h : ∀ y, K1 y → K2 y) (hh : Opt o K1) : Opt o K2 := by obtain ⟨y, e, hk⟩ := hh; exact ⟨y, e, h y hk⟩
def CallW (P : Program) (f : FuncId) (args : List SV) (rf : Refs) (k : SV → List SV → Refs → Prop) : Prop :=
  ∃ res args' rf', Callable P f ∧ Good P f args rf res args' rf' ∧ k res args' rf'
theorem CallW_mono {P : Program} {f : FuncId} {args : List SV} {rf : Refs} {k1 k2 : SV → List SV → Refs → Prop} (h : ∀ a b c, k1 a b c → k2 a b c) (hh : CallW P f args rf k1) : CallW P f args rf k2 := by
  obtain ⟨a, b, c, h1, h2, h3⟩ := hh
  exact ⟨a, b, c, h1, h2, h _ _ _ h3⟩
def GoodR (P : Program) (f : FuncId) (args : List SV) (rf : Refs) (Q : SV → List SV → Refs → Prop) : Prop :=
  ∀ (w : World) (ω : Nat → Lab) (rb : Nat → Nat) (vals : Array Value), vals.size = args.length → RR ω ⟨#[], vals, w, rb⟩ ⟨[], rf, argSlots 0 args⟩ →
    Calls P f vals w fun e w' => ∃ v ω' res args' rf', e = .returned v ∧ Q res args' rf' ∧ RR ω' ⟨#[], vals, w', rb⟩ ⟨[], rf', argSlots 0 args'⟩ ∧ (∀ r, r = Root.res → SVR ω' ⟨#[], vals, w', rb⟩ r v res) ∧
      Tr ω ⟨#[], vals, w, rb⟩ ω' ⟨#[], vals, w', rb⟩
def CallR (P : Program) (f : FuncId) (args : List SV) (rf : Refs) (k : SV → List SV → Refs → Prop) : Prop := Callable P f ∧ GoodR P f args rf k
theorem CallR_mono {P : Program} {f : FuncId} {args : List SV} {rf : Refs} {k1 k2 : SV → List SV → Refs → Prop} (h : ∀ a b c, k1 a b c → k2 a b c) (hh : CallR P f args rf k1) : CallR P f args rf k2 :=
  ⟨hh.1, fun w ω rb vals h1 h2 => Calls.mono (hh.2 w ω rb vals h1 h2) fun e w' ⟨v, ω', res, a, r, e1, e2, e3⟩ => ⟨v, ω', res, a, r, e1, h _ _ _ e2, e3⟩⟩
theorem Good.toR {P : Program} {f : FuncId} {args : List SV} {rf : Refs} {res : SV} {args' : List SV} {rf' : Refs} {k : SV → List SV → Refs → Prop} (h : Good P f args rf res args' rf') (hk : k res args' rf') : GoodR P f args rf k :=
  fun w ω rb vals h1 h2 => Calls.mono (h w ω rb vals h1 h2) fun e w' ⟨v, ω', e1, e3⟩ => ⟨v, ω', res, args', rf', e1, hk, e3⟩
def noE : Env := fun _ _ _ => none
theorem noE_ok {P : Program} : EnvOk P noE := fun _ _ _ _ _ _ h => by simp [noE] at h
open Classical in
noncomputable def oneE (f : FuncId) (args : List SV) (rf : Refs) (r : SV × List SV × Refs) : Env := fun f' a' r' => if f' = f ∧ a' = args ∧ r' = rf then some r else none
theorem oneE_ok {P : Program} {f : FuncId} {args : List SV} {rf : Refs} {res : SV} {args' : List SV} {rf' : Refs} (h1 : Callable P f) (h2 : Good P f args rf res args' rf') : EnvOk P (oneE f args rf (res, args', rf')) := by
  intro f1 a1 r1 res1 a2 r2 h
  unfold oneE at h
  split at h
  · rename_i hc
    obtain ⟨rfl, rfl, rfl⟩ := hc
    simp only [Option.some.injEq, Prod.mk.injEq] at h
    obtain ⟨rfl, rfl, rfl⟩ := h
    exact ⟨h1, h2⟩
  · simp at h
theorem oneE_eq {f : FuncId} {args : List SV} {rf : Refs} {r : SV × List SV × Refs} : oneE f args rf r f args rf = some r := by simp [oneE]
def callK (st : St) (L : List (Root × Nat × Nat)) (refs : List Nat) (d : Option Nat) (K : St → Prop) (res : SV) (args' : List SV) (rf' : Refs) : Prop :=
  (res.fresh && refsThere rf' 0 refs.length) = true ∧ K (putDst (afterSt st L refs args' rf') d res)
def callRf (P : Program) (st : St) (d : Option Nat) (f : FuncId) (args : List (Bool × SV)) (L : List (Root × Nat × Nat)) (refs : List Nat) (K : St → Prop) : Option Refs → Prop
  | some rf => CallR P f (callArgs st L refs args) rf (callK st L refs d K)
  | none => False
def callLs (P : Program) (st : St) (d : Option Nat) (f : FuncId) (args : List (Bool × SV)) (refs : List Nat) (K : St → Prop) (L : List (Root × Nat × Nat)) : Prop :=
  ((lentsOk L refs && cellsNodup L) && args.all (fun x => x.2.known)) = true ∧ callRf P st d f args L refs K (callRefs st 0 refs)
def callW (P : Program) (st : St) (d : Option Nat) (f : FuncId) (args : List (Bool × SV)) (refs : List Nat) (K : St → Prop) : Prop :=
  callLs P st d f args refs K (allLents st 0 args)
def callvW (P : Program) (st : St) (d : Option Nat) (args : List (Bool × SV)) (refs : List Nat) (K : St → Prop) : Cell → Prop
  | .fn (.func f) fi ca => callW P st d f (evCaps fi ++ args ++ evCaps ca) refs K
  | _ => False
def goW (P : Program) (st : St) (d : Option Nat) (K : St → Prop) : XOp → Prop
  | .call f args refs => callW P st d f (evArgs st args) refs K
  | .callv x args refs => callvW P st d (evArgs st args) refs K (evX st x).c1
  | op => Opt (step noE st d op) K
section
variable {P : Program} {ω : Nat → Lab} {m : Mc} {st : St} {o : Oper} {a : Act} {K : St → Prop}
theorem callR_sound {d : Option Nat} {f : FuncId} {args : List (Bool × SV)} {refs : List Nat} {vals : Array Value} (h : RR ω m st) (hd : ∀ t, d = some t → t < m.T.size)
    (hsz : vals.size = args.length) (hv : ∀ i own x, args[i]? = some (own, x) → (∀ r, SVR ω m r (vals.getD i undef) x) ∧ x.alOk st) (hs : callW P st d f args refs K) :
    Callable P f ∧ Calls P f vals m.w fun e w' => ∃ v ω' st', e = .returned v ∧ K st' ∧ RR ω' { m with w := w', T := (match d with | some d => m.T.setIfInBounds d v | none => m.T) } st' ∧
      Tr ω m ω' { m with w := w', T := (match d with | some d => m.T.setIfInBounds d v | none => m.T) } := by
  obtain ⟨hcc, hs⟩ := hs
  simp only [Bool.and_eq_true] at hcc
  have hc := hcc.1
  have hv : ∀ i own x, args[i]? = some (own, x) → (∀ r, SVR ω m r (vals.getD i undef) x) ∧ x.alOk st ∧ x.sh ≠ .no := fun i own x hx =>
    ⟨(hv i own x hx).1, (hv i own x hx).2, fun e => by
      have := List.all_eq_true.1 hcc.2 _ (List.mem_of_getElem? hx)
      simp [SV.known, e] at this⟩
  unfold callRf at hs
  split at hs
  · rename_i rf hrf
    obtain ⟨h1, h2⟩ := start_sound h hsz (fun i own x hx => (hv i own x hx).1) rfl hc.1 hrf
    refine ⟨hs.1, Calls.mono (hs.2 m.w _ _ vals h1 h2) ?_⟩
    rintro e w' ⟨v, ω', res, args', rf', rfl, ⟨hfr, hK⟩, h3, h4, h5⟩
    simp only [Bool.and_eq_true] at hfr
    have hal : ∀ y ∈ allLents st 0 args, ∃ i own x, args[i]? = some (own, x) ∧ y.2.1 = i ∧ x.get y.2.2 = .al ⟨y.1, []⟩ := fun y hy => by
      obtain ⟨i, own, x, h6, h7, h8⟩ := allLents_get hy
      refine ⟨i, own, x, h6, by omega, ?_⟩
      have hne := (hv i own x h6).2.2
      unfold SV.get
      split
      · contradiction
      · rw [h8]; rfl
    obtain ⟨h6, h7, h8, h9⟩ := after_sound (d := d.getD m.T.size) (args' := args') (rf' := rf') (vals := vals) (v := v) h hc.1 hc.2 hfr.1
      (fun r i c hm => by
        obtain ⟨i', own, x, e1, e2, e3⟩ := hal _ hm
        simp only at e2 e3; subst e2
        obtain ⟨u, hu, hcr⟩ := SVR_get ((hv _ own x e1).1 .res) (c := c) (by rw [e3]; simp)
        rw [e3] at hcr
        obtain ⟨⟨v0, hh, hp⟩, _⟩ := hcr
        simp only [onPath] at hp
        rw [hh, hp]; exact hu.symm)
      (fun r i c hm => by
        obtain ⟨i', own, x, e1, e2, e3⟩ := hal _ hm
        simp only at e2 e3; subst e2
        exact (hv _ own x e1).2.1 c ⟨r, []⟩ (by rw [e3]; simp [Cell.places]))
      hrf (fun j hj => by simpa using refsThere_spec hfr.2 j hj) h3 (h4 _ rfl) h5
    cases d with
    | none => exact ⟨v, _, _, rfl, hK, h6, h9⟩
    | some d => exact ⟨v, _, _, rfl, hK, h6.put (hd d rfl) h7 (h8 _), h9.trans (Tr.put (m := { m with w := w' }) d v)⟩
  · exact hs.elim
def XOkR (P : Program) (ω : Nat → Lab) (m : Mc) (o : Oper) (a : Act) (K : St → Prop) : Prop :=
  ∀ (next : Act → World → Prop) (Q : Exit → Act → World → Prop), (∀ st' a' w' ω' rb', K st' → a'.defers = a.defers → RR ω' ⟨a'.tmps, m.G, w', rb'⟩ st' → Tr ω m ω' ⟨a'.tmps, m.G, w', rb'⟩ → next a' w') → o.wp P a m.w next Q
theorem XOkR.call {f : FuncId} {xs : List (Bool × SV)} {vals : List Value} {refs : List Nat} (h : RR ω m st) (ha : a.tmps = m.T) (hd : ∀ t, o.dst = some t → t < m.T.size) (ht : Told ω m st vals xs)
    (hs : callW P st o.dst f xs refs K) (hr : (execOp a.eval o).run P m.w = (callFunc f vals.toArray).run P m.w) : XOkR P ω m o a K := by
  obtain ⟨h1, h2⟩ := callR_sound (vals := vals.toArray) h hd (by simpa using ht.1) (fun i own x hx => by
    have hi : i < vals.length := by rw [ht.1]; exact (List.getElem?_eq_some_iff.1 hx).1
    have := ht.2 i vals[i] own x (List.getElem?_eq_getElem hi) hx
    have e : vals.toArray.getD i undef = vals[i] := by simp [Array.getD, hi]
    rw [e]; exact this) hs
  intro next Q hn
  unfold Oper.wp
  rw [show (execOp a.eval o).run P m.w = .ok (.enter f vals.toArray) m.w by rw [hr]; exact run_callFunc h1, Oper.upon_enter]
  refine Calls.mono h2 ?_
  rintro e w' ⟨v, ω', st', rfl, hk, h2, h3⟩
  cases hd : o.dst with
  | none =>
    rw [hd] at h2 h3
    exact hn _ _ _ _ _ hk rfl (by simpa [Act.put, ha] using h2) (by simpa [Act.put, ha] using h3)
  | some d =>
    rw [hd] at h2 h3
    exact hn _ _ _ _ _ hk rfl (by simpa [Act.put, ha] using h2) (by simpa [Act.put, ha] using h3)
theorem goW_sound {op : XOp} (h : RR ω m st) (ha : a.tmps = m.T) (hm : mE P o op = true) (hd : ∀ t, o.dst = some t → t < m.T.size ∧ t < KEY) (hg : goW P st o.dst K op) : XOkR P ω m o a K := by
  have hd1 : ∀ t, o.dst = some t → t < m.T.size := fun t ht => (hd t ht).1
  unfold goW at hg
  split at hg
  · simp only [mE] at hm
    split at hm
    · rename_i f' zs tys ho
      simp only [Bool.and_eq_true, beq_iff_eq] at hm
      obtain ⟨rfl, hm⟩ := hm
      refine XOkR.call h ha hd1 (told_args h ha hm) hg ?_
      simp only [execOp, ho, resolve, Act.eval, Deferred.ofValue, pure_bind, invoke]
      congr 2
      apply Array.ext'
      simp
    · simp at hm
  · simp only [mE] at hm
    split at hm
    · rename_i z zs tys ho
      simp only [Bool.and_eq_true] at hm
      obtain ⟨hmx, hm⟩ := hm
      unfold callvW at hg
      split at hg
      · rename_i f fi ca hc
        have hcc := c1_of h ha hmx hc (by simp) (fun _ => .res 0)
        obtain ⟨⟨fv, cv, hv, h1, h2⟩, hp⟩ := hcc
        simp only [Cell.places, List.mem_append] at hp
        have ht := ((told_caps (st := st) h1 fun p hpp => hp p (.inl hpp)).append (told_args h ha hm)).append (told_caps (st := st) h2 fun p hpp => hp p (.inr hpp))
        refine XOkR.call h ha hd1 ht hg ?_
        simp only [execOp, ho, resolve, hv, Deferred.ofValue, pure_bind, invoke]
        congr 2
        apply Array.ext'
        simp
      · exact hg.elim
    · simp at hm
  · obtain ⟨st', hs, hK⟩ := hg
    exact fun next Q hn => step_sound noE_ok h ha hm hd hs next Q fun a' w' ω' rb' h1 h2 h3 => hn st' a' w' ω' rb' hK h1 h2 h3
end
theorem callW_mono {P : Program} {st : St} {d : Option Nat} {f : FuncId} {args : List (Bool × SV)} {refs : List Nat} {K1 K2 : St → Prop} (hk : ∀ s, K1 s → K2 s) (h : callW P st d f args refs K1) : callW P st d f args refs K2 := by
  refine ⟨h.1, ?_⟩
  have h2 := h.2
  unfold callRf at h2 ⊢
  split
  · rename_i rf hrf
    rw [hrf] at h2
    exact CallR_mono (fun _ _ _ hh => ⟨hh.1, hk _ hh.2⟩) h2
  · rename_i hrf
    rw [hrf] at h2
    exact h2
theorem goW_mono {P : Program} {st : St} {d : Option Nat} {op : XOp} {K1 K2 : St → Prop} (hk : ∀ s, K1 s → K2 s) (h : goW P st d K1 op) : goW P st d K2 op := by
  unfold goW at h ⊢
  split
  · exact callW_mono hk h
  · simp only at h
    unfold callvW at h ⊢
    split
    · rename_i hc
      rw [hc] at h
      exact callW_mono hk h
    · rename_i hno
      split at h
      · rename_i hc; exact absurd hc (hno _ _ _)
      · exact h
  · rename_i h1 h2
    split at h
    · exact absurd rfl (h1 _ _ _)
    · exact absurd rfl (h2 _ _ _)
    · exact Opt_mono hk h
class Fc (P : Program) (f : FuncId) (args : List SV) (rf : Refs) (pre : outParam Prop) (res : outParam SV) (args' : outParam (List SV)) (rf' : outParam Refs) : Prop where
  ok : pre → Callable P f ∧ Good P f args rf res args' rf'
theorem Fc.of {P : Program} {f : FuncId} {args : List SV} {rf : Refs} {pre : Prop} {res : SV} {args' : List SV} {rf' : Refs} {k : SV → List SV → Refs → Prop} (h : Fc P f args rf pre res args' rf') (hp : pre) (hk : k res args' rf') : CallR P f args rf k :=
  ⟨(h.ok hp).1, (h.ok hp).2.toR hk⟩
theorem Fc.ofW {P : Program} {f : FuncId} {args : List SV} {rf : Refs} {pre : Prop} {res : SV} {args' : List SV} {rf' : Refs} {k : SV → List SV → Refs → Prop} (h : Fc P f args rf pre res args' rf') (hp : pre) (hk : k res args' rf') : CallW P f args rf k :=
  ⟨res, args', rf', (h.ok hp).1, (h.ok hp).2, hk⟩
class FcR (P : Program) (f : FuncId) (args : List SV) (rf : Refs) (pre : outParam Prop) (α : outParam Type) (I : outParam (α → Prop)) (res : outParam (α → SV)) (args' : outParam (α → List SV)) (rf' : outParam (α → Refs)) : Prop where
  ok : pre → Callable P f ∧ GoodR P f args rf fun r a g => ∃ x, I x ∧ r = res x ∧ a = args' x ∧ g = rf' x
theorem FcR.of {P : Program} {f : FuncId} {args : List SV} {rf : Refs} {pre : Prop} {α : Type} {I : α → Prop} {res : α → SV} {args' : α → List SV} {rf' : α → Refs} {k : SV → List SV → Refs → Prop} (h : FcR P f args rf pre α I res args' rf') (hp : pre) (hk : ∀ x, I x → k (res x) (args' x) (rf' x)) : CallR P f args rf k :=
  CallR_mono (by rintro _ _ _ ⟨x, hx, rfl, rfl, rfl⟩; exact hk x hx) (h.ok hp)
def keepS {α : Type} (p : Nat → Bool) : List (Nat × α) → List (Nat × α)
  | [] => []
  | (j, v) :: l => match p j with
    | true => (j, v) :: keepS p l
    | false => keepS p l
def dropsOwnS (p : Nat → Bool) : Slots → Bool
  | [] => false
  | (j, v) :: l => (!p j && v.owns) || dropsOwnS p l
def dropsOwnR (p : Nat → Bool) : Refs → Bool
  | [] => false
  | (j, cs) :: l => (!p j && cs.any Cell.isOwn) || dropsOwnR p l
def rootKept (p q : Nat → Bool) : Root → Bool
  | .slot s _ => p s
  | .ref k _ => q k
  | _ => true
def hitF (p q : Nat → Bool) (c : Cell) : Bool := c.places.any fun x => !rootKept p q x.r
def forget (p q : Nat → Bool) (st : St) : St :=
  if dropsOwnS p st.sl || dropsOwnR q st.rf then ⟨keepS p (st.filt (hitF p q)).sl, keepS q (st.filt (hitF p q)).rf, (st.filt (hitF p q)).gh⟩
  else ⟨keepS p st.sl, keepS q st.rf, st.gh⟩
theorem look_keepS {p : Nat → Bool} : ∀ (l : Slots) (s : Nat), look (keepS p l) s = if p s then look l s else .undef
  | [], s => by simp [keepS, look]
  | (j, v) :: l, s => by
    have ih := look_keepS (p := p) l s
    simp only [keepS]
    split
    · rename_i hp
      simp only [look]
      split
      · rename_i e; subst e; rw [if_pos hp]
      · exact ih
    · rename_i hp
      rw [ih]
      by_cases e : j = s
      · subst e; simp [hp, look]
      · simp [look, e]
theorem lookR_keepS {p : Nat → Bool} : ∀ (l : Refs) (s : Nat), lookR (keepS p l) s = if p s then lookR l s else none
  | [], s => by simp [keepS, lookR]
  | (j, v) :: l, s => by
    have ih := lookR_keepS (p := p) l s
    simp only [keepS]
    split
    · rename_i hp
      simp only [lookR]
      split
      · rename_i e; subst e; rw [if_pos hp]
      · exact ih
    · rename_i hp
      rw [ih]
      by_cases e : j = s
      · subst e; simp [hp, lookR]
      · simp [lookR, e]
theorem dropsOwnS_spec {p : Nat → Bool} : ∀ {l : Slots} {s : Nat}, dropsOwnS p l = false → p s = false → (look l s).owns = false
  | [], s, _, _ => rfl
  | (j, v) :: l, s, h, hp => by
    simp only [dropsOwnS, Bool.or_eq_false_iff, Bool.and_eq_false_iff] at h
    simp only [look]
    split
    · rename_i e; subst e
      rcases h.1 with h1 | h1
      · simp [hp] at h1
      · exact h1
    · exact dropsOwnS_spec h.2 hp
theorem dropsOwnR_spec {p : Nat → Bool} : ∀ {l : Refs} {s : Nat} {cs : List Cell}, dropsOwnR p l = false → p s = false → lookR l s = some cs → cs.any Cell.isOwn = false
  | [], s, _, _, _, h => by simp [lookR] at h
  | (j, v) :: l, s, cs, h, hp, hl => by
    simp only [dropsOwnR, Bool.or_eq_false_iff, Bool.and_eq_false_iff] at h
    simp only [lookR] at hl
    split at hl
    · rename_i e; subst e
      simp only [Option.some.injEq] at hl; subst hl
      rcases h.1 with h1 | h1
      · simp [hp] at h1
      · exact h1
    · exact dropsOwnR_spec h.2 hp hl
section
variable {P : Program} {E : Env} {ω : Nat → Lab} {m : Mc} {st : St}
theorem mapS_false : ∀ (l : Slots), mapS l (SV.filt fun _ => false) = l
  | [] => rfl
  | (j, v) :: l => by
    have : v.filt (fun _ => false) = v := by
      obtain ⟨sh, cs⟩ := v
      simp only [SV.filt, SV.mk.injEq, true_and]
      exact (List.map_congr_left fun c _ => by simp [Cell.filt]).trans (List.map_id cs)
    have ih := mapS_false l
    simp only [mapS, List.map_cons] at ih ⊢
    rw [this, ih]
theorem mapR_false : ∀ (l : Refs), mapR l (fun cs => cs.map (Cell.filt fun _ => false)) = l
  | [] => rfl
  | (j, v) :: l => by
    have : v.map (Cell.filt fun _ => false) = v := (List.map_congr_left fun c _ => by simp [Cell.filt]).trans (List.map_id v)
    have ih := mapR_false l
    simp only [mapR, List.map_cons] at ih ⊢
    rw [this, ih]
theorem filt_false (st : St) : st.filt (fun _ => false) = st := by simp only [St.filt, mapS_false, mapR_false]
theorem R.keep {p q : Nat → Bool} (h : R ω m st) : R ω m ⟨keepS p st.sl, keepS q st.rf, st.gh⟩ := by
  refine ⟨fun s => ?_, h.gh, fun k cs hk => ?_⟩
  · simp only [look_keepS]
    split
    · exact h.sl s
    · exact SVR_no rfl
  · simp only [lookR_keepS] at hk
    split at hk
    · exact h.rf k cs hk
    · simp at hk
theorem rootCell_keep {p q : Nat → Bool} (r : Root) : rootCell ⟨keepS p st.sl, keepS q st.rf, st.gh⟩ r = if rootKept p q r then rootCell st r else .undef := by
  cases r with
  | slot s c =>
    simp only [rootCell, look_keepS, rootKept]
    by_cases hp : p s = true <;> simp [hp, SV.get]
  | ref k c =>
    simp only [rootCell, lookR_keepS, rootKept]
    by_cases hq : q k = true <;> simp [hq]
  | gho _ _ => simp [rootKept, rootCell]
  | res _ => simp [rootKept, rootCell]
theorem RR.forget {p q : Nat → Bool} (h : RR ω m st) : RR ω m (Eng.forget p q st) := by
  unfold Eng.forget
  split
  · have h1 := h.r.sameW (m' := m) (hitF p q) rfl rfl rfl (fun _ => .inl rfl) (fun _ _ _ _ => rfl)
    have h2 : AlOk (st.filt (hitF p q)) := h.al.filt (fun c hc => by cases c <;> simp [Cell.isOwn] at hc; simp [hitF, Cell.places])
    refine ⟨h1.keep, fun r x hx => ?_⟩
    rw [rootCell_keep] at hx ⊢
    split at hx
    · have h3 := h2 r x hx
      rw [rootCell_filt] at hx
      obtain ⟨hf, hx'⟩ := Cell.filt_place hx
      have : rootKept p q x.r = true := by
        simp only [hitF, List.any_eq_false] at hf
        simpa using hf x hx'
      rw [if_pos this]; exact h3
    · simp [Cell.places] at hx
  · rename_i hno
    simp only [Bool.or_eq_true, not_or, Bool.not_eq_true] at hno
    refine ⟨h.r.keep, fun r x hx => ?_⟩
    rw [rootCell_keep] at hx ⊢
    split at hx
    · have h3 := h.al r x hx
      rw [if_pos]; exact h3
      cases hr : x.r with
      | slot s c =>
        rw [hr] at h3
        cases hp : p s with
        | true => exact hp
        | false =>
          have := dropsOwnS_spec hno.1 hp
          have h4 := SV.owns_get (v := look st.sl s) (c := c) h3
          rw [this] at h4; simp at h4
      | ref k c =>
        rw [hr] at h3
        cases hq : q k with
        | true => exact hq
        | false =>
          simp only [rootCell] at h3
          cases hl : lookR st.rf k with
          | none => simp [hl, Cell.isOwn] at h3
          | some cs =>
            have := dropsOwnR_spec hno.2 hq hl
            simp only [hl] at h3
            cases hg : cs[c]? with
            | none => simp [hg, Cell.isOwn] at h3
            | some d =>
              simp only [hg, Option.getD_some] at h3
              rw [List.any_eq_false] at this
              exact absurd h3 (this d (List.mem_of_getElem? hg))
      | gho _ _ => rfl
      | res _ => rfl
    · simp [Cell.places] at hx
end
structure XI where
  dst : Option Nat
  guard : Option (Nat × Bool)
  op : XOp
  kill : List Nat
inductive XL where
  | nil
  | op (i : XI) (rest : XL)
  | sc (t : Nat) (want : Bool) (blk : XL) (ks : List Nat) (d : Nat) (g : Option (Nat × Bool)) (c rhs : XO) (kill : List Nat) (rest : XL)
def Br (b : Bool) (f : Bool → Prop) : Prop := f b
theorem Br_true {f : Bool → Prop} : Br true f = f true := rfl
theorem Br_false {f : Bool → Prop} : Br false f = f false := rfl
theorem Br_of {b : Bool} {f : Bool → Prop} (h1 : b = true → f true) (h2 : b = false → f false) : Br b f := by cases b; exact h2 rfl; exact h1 rfl
def killSt (l : List Nat) (st : St) : St := match l with
  | [] => st
  | l => forget (fun s => !l.contains s) (fun _ => true) st
def inR : List Nat → Nat → Bool
  | a :: b :: l, s => if s < a then false else if s ≤ b then true else inR l s
  | _, _ => false
def killR (l : List Nat) (st : St) : St := match l with
  | [] => st
  | l => forget (fun s => !inR l s) (fun _ => true) st
def killK (l : List Nat) (K : St → Prop) (st : St) : Prop := K (killR l st)
def skipDst (st : St) (d : Option Nat) : St := match d with
  | some d => putSlot st d .undef
  | none => st
def guardK (want : Bool) (yes no : St → Prop) (st : St) : Bool → Prop
  | true => match want with
    | true => yes st
    | false => no st
  | false => match want with
    | true => no st
    | false => yes st
def goK (P : Program) (i : XI) (K : St → Prop) (st : St) : Prop := goW P st i.dst (killK i.kill K) i.op
def skipK (i : XI) (K : St → Prop) (st : St) : Prop := K (killR i.kill (skipDst st i.dst))
def pickXI (want : Bool) (d : Nat) (g : Option (Nat × Bool)) (c rhs : XO) : XI :=
  ⟨some d, g, .pick c (match want with | true => rhs | false => .c ⟨.one, [.bool true]⟩) (match want with | true => .c ⟨.one, [.bool false]⟩ | false => rhs), []⟩
def XL.flat : XL → List XI
  | .nil => []
  | .op i r => i :: r.flat
  | .sc t want blk ks d g c rhs kill r => blk.flat ++ pickXI want d g c rhs :: r.flat
def gateOk (g : Option (Nat × Bool)) (st : St) : Prop := match g with
  | none => True
  | some (t, w) => (look st.sl t).c1 = .bool w
def deadOk (t : Nat) (want : Bool) : List Nat → List XI → Bool
  | _, [] => true
  | U, i :: is => (match i.guard, i.dst with
    | some (g, w), some d => ((g == t && w == want) || U.contains g) && !(d == t)
    | _, _ => false) && deadOk t want (match i.dst with | some d => d :: U | none => U) is
def dstsOf : List XI → List Nat
  | [] => []
  | i :: is => match i.dst with
    | some d => d :: dstsOf is
    | none => dstsOf is
def scEnd (rhs : XO) (x : Bool) (ks : List Nat) (st0 : St) (st1 : St) : Prop := (evX st1 rhs).c1 = .bool x ∧ killSt ks st1 = st0
def scVal (want b x : Bool) : Bool := match want with
  | true => b && x
  | false => b || x
def ScW (want : Bool) (b : Bool) (blk : (St → Prop) → St → Prop) (t : Nat) (ks : List Nat) (d : Nat) (g : Option (Nat × Bool)) (c rhs : XO) (K : St → Prop) (st : St) : Prop :=
  putSlot st t ⟨.one, [.bool b]⟩ = st ∧ (evX (killSt ks st) c).c1 = .bool b ∧ gateOk g (killSt ks st) ∧
  ∃ x, (b = want → blk (scEnd rhs x ks (killSt ks (putSlot st t ⟨.one, [.bool want]⟩))) (putSlot st t ⟨.one, [.bool want]⟩)) ∧ K (putSlot (killSt ks st) d ⟨.one, [.bool (scVal want b x)]⟩)
def WI (P : Program) : XL → (St → Prop) → St → Prop
  | .nil, K, st => K st
  | .op i is, K, st => match i.guard with
    | none => goK P i (WI P is K) st
    | some (t, want) => match (look st.sl t).c1 with
      | .bool b => Br b (guardK want (goK P i (WI P is K)) (skipK i (WI P is K)) st)
      | _ => False
  | .sc t want blk ks d g c rhs kill is, K, st => match (look st.sl t).c1 with
    | .bool b => ScW want b (WI P blk) t ks d g c rhs (killK kill (WI P is K)) st
    | _ => False
def mG (ops : Array Oper) : Option (Nat × Bool) → Option (Nat × Bool) → Bool
  | none, none => true
  | some (g, w), some (t, w') => w == w' && decide ((ops[g]?).bind (·.dst) = some t)
  | _, _ => false
def mI (P : Program) (N : Nat) (ops : Array Oper) (o : Oper) (i : XI) : Bool :=
  decide (o.dst = i.dst) && (match o.dst with
    | some d => decide (d < N) && decide (d < KEY)
    | none => true) && mG ops o.guard i.guard && mE P o i.op
def mIs (P : Program) (N : Nat) (ops : Array Oper) : List Oper → List XI → Bool
  | [], [] => true
  | o :: os, i :: is => mI P N ops o i && mIs P N ops os is
  | _, _ => false
def scOk : XL → Bool
  | .nil => true
  | .op _ r => scOk r
  | .sc t want blk ks d g c rhs kill r => deadOk t want [] blk.flat && ((dstsOf blk.flat).all fun d => ks.contains d) && scOk blk && scOk r
def St.le (a b : St) : Prop := (∀ t, look a.sl t = look b.sl t ∨ (look a.sl t).sh = .no) ∧ (∀ k cs, lookR a.rf k = some cs → lookR b.rf k = some cs) ∧ a.gh = b.gh
def dropOnly (l : List Nat) (st : St) : St := match l with
  | [] => st
  | l => ⟨keepS (fun s => !l.contains s) st.sl, keepS (fun s => !l.contains s) st.rf, st.gh⟩
section
variable {a b : St}
theorem le_evX (h : a.le b) (x : XO) : evX b x = evX a x ∨ (evX a x).sh = .no := by
  cases x with
  | c x => exact .inl rfl
  | s t =>
    rcases h.1 t with e | e
    · left; simp only [evX, e]
    · right; exact e
theorem le_known (h : a.le b) {x : XO} (hk : (evX a x).sh ≠ .no) : evX b x = evX a x := (le_evX h x).resolve_right hk
theorem le_c1 (h : a.le b) {x : XO} {c : Cell} (hc : (evX a x).c1 = c) (hne : c ≠ .undef) : (evX b x).c1 = c := by
  rw [le_known h, hc]
  intro e; rw [SV.c1, e] at hc; exact hne hc.symm
theorem le_root (h : a.le b) {r : Root} (hne : rootCell a r ≠ .undef) : rootCell b r = rootCell a r := by
  cases r with
  | slot s c =>
    simp only [rootCell] at hne ⊢
    rcases h.1 s with e | e
    · rw [e]
    · exact absurd (by simp [SV.get, e]) hne
  | gho s c => simp only [rootCell, h.2.2]
  | ref k c =>
    simp only [rootCell] at hne ⊢
    cases hl : lookR a.rf k with
    | none => rw [hl] at hne; simp at hne
    | some cs => rw [h.2.1 k cs hl]
  | res c => rfl
theorem le_rows (h : a.le b) {p : Pl} {x : Nat × List (List D)} (hx : rowsAt a p = some x) : rowsAt b p = some x := by
  have hne : rootCell a p.r ≠ .undef := by intro e; simp [rowsAt, e] at hx
  simp only [rowsAt, le_root h hne] at hx ⊢; exact hx
theorem le_rowsOf (h : a.le b) {c : Cell} {x : Nat × List (List D)} (hx : rowsOf a c = some x) : rowsOf b c = some x := by
  cases c <;> simp only [rowsOf] at hx ⊢ <;> first | exact hx | exact le_rows h hx | simp at hx
theorem le_load (h : a.le b) {ag : Bool} {n : Nat} {c : Cell} {y : SV} (hx : load a ag n c = some y) : load b ag n c = some y := by
  cases c <;> simp only [load] at hx ⊢ <;> first | exact hx | skip
  · split at hx
    · rename_i cs hcs; rw [h.2.1 _ _ hcs]; exact hx
    · simp at hx
  · split at hx
    · rename_i sz rows hr; rw [le_rows h hr]; exact hx
    · simp at hx
theorem le_lo (h : a.le b) {x : Option XO} {n : Int} (hx : loBound a x = some n) : loBound b x = some n := by
  cases x with
  | none => exact hx
  | some x =>
    simp only [loBound] at hx ⊢
    split at hx
    · rename_i k m hc; rw [le_c1 h hc (by simp)]; exact hx
    · simp at hx
theorem le_hi (h : a.le b) {l : Nat} {x : Option XO} {n : Int} (hx : hiBound a l x = some n) : hiBound b l x = some n := by
  cases x with
  | none => exact hx
  | some x =>
    simp only [hiBound] at hx ⊢
    split at hx
    · rename_i k m hc; rw [le_c1 h hc (by simp)]; exact hx
    · simp at hx
def vq (st : St) (op : XOp) : Option SV := match op with
  | .mv _ => qop st op
  | .pick _ _ _ => qop st op
  | .load _ _ _ => qop st op
  | .bin _ _ _ => qop st op
  | .binB _ _ _ => qop st op
  | .eqs _ _ _ _ => qop st op
  | .un _ _ => qop st op
  | .convI _ _ => qop st op
  | .b2s _ => qop st op
  | .slcS _ _ _ => qop st op
  | .slcR _ _ _ _ => qop st op
  | .fad _ _ => qop st op
  | .iad _ _ _ => qop st op
  | .idx _ _ => qop st op
  | .ext _ _ => qop st op
  | .len _ _ => qop st op
  | _ => none
theorem c1_bin {op : BinOp} {c d : Cell} {x : SV} (h : (binC op c d).bind one = some x) : c ≠ .undef ∧ d ≠ .undef := by
  constructor <;> intro e <;> subst e
  · simp [binC] at h
  · cases c <;> simp [binC] at h
theorem le_vq (h : a.le b) {op : XOp} {y : SV} (hk : y.sh ≠ .no) (hq : vq a op = some y) : vq b op = some y := by
  cases op <;> simp only [vq, qop] at hq ⊢ <;> try (simp at hq; done)
  · simp only [Option.some.injEq] at hq ⊢
    subst hq; exact le_known h hk
  · split at hq
    · rename_i t hc
      rw [le_c1 h hc (by simp)]
      simp only [Option.some.injEq] at hq ⊢
      cases t <;> simp only [Bool.false_eq_true, if_false, if_true] at hq ⊢ <;> subst hq <;> exact le_known h hk
    · simp at hq
  · rename_i ag n x
    by_cases hc : (evX a x).c1 = .undef
    · rw [hc] at hq; simp [load] at hq
    · rw [le_c1 h rfl hc]; exact le_load h hq
  · rename_i op x z
    obtain ⟨h1, h2⟩ := c1_bin hq
    rw [le_c1 h rfl h1, le_c1 h rfl h2]; exact hq
  · split at hq
    · rename_i h1 h2
      rw [le_known h (by rw [h1]; simp), le_known h (by rw [h2]; simp), h1, h2]; exact hq
    · simp at hq
  · split at hq
    · rename_i p q hp hq'; rw [le_c1 h hp (by simp), le_c1 h hq' (by simp)]; exact hq
    · simp at hq
  · rename_i op x
    by_cases hc : (evX a x).c1 = .undef
    · rw [hc] at hq; simp [unC] at hq
    · rw [le_c1 h rfl hc]; exact hq
  · split at hq
    · rename_i k n hc; rw [le_c1 h hc (by simp)]; exact hq
    · simp at hq
  · rename_i x
    split at hq
    · rename_i sz rows hr
      have hne : (evX a x).c1 ≠ .undef := by intro e; rw [e] at hr; simp [rowsOf] at hr
      rw [le_c1 h rfl hne, le_rowsOf h hr]; exact hq
    · simp at hq
  · split at hq
    · rename_i s hc
      rw [le_c1 h hc (by simp)]
      simp only at hq ⊢
      split at hq
      · rename_i l u hl hu; rw [le_lo h hl, le_hi h hu]; exact hq
      · simp at hq
    · simp at hq
  · split at hq
    · rename_i sz rows hc
      rw [le_c1 h hc (by simp)]
      simp only at hq ⊢
      split at hq
      · rename_i l u hl hu; rw [le_lo h hl, le_hi h hu]; exact hq
      · simp at hq
    · simp at hq
  · rename_i off x
    by_cases hc : (evX a x).c1 = .undef
    · rw [hc] at hq; simp at hq
    · rw [le_c1 h rfl hc]; exact hq
  · rename_i sz x i
    split at hq
    · rename_i k n hc
      rw [le_c1 h hc (by simp)]
      simp only at hq ⊢
      split at hq
      · rename_i sz' rows hx; rw [le_c1 h hx (by simp)]; exact hq
      · rename_i p hx
        rw [le_c1 h hx (by simp)]
        simp only at hq ⊢
        split at hq
        · rename_i sz' rows hr; rw [le_rows h hr]; exact hq
        · simp at hq
      · simp at hq
    · simp at hq
  · split at hq
    · rename_i s k n hs hn; rw [le_c1 h hs (by simp), le_c1 h hn (by simp)]; exact hq
    · simp at hq
  · rename_i i x
    split at hq
    · rename_i l hl; rw [le_known h (by rw [hl]; simp), hl]; exact hq
    · simp at hq
  · rename_i str x
    cases str with
    | true =>
      split at hq
      · rename_i s hc hs; rw [le_c1 h hs (by simp)]; exact hq
      · exact absurd ‹true = false› (by decide)
      · simp at hq
    | false =>
      simp only at hq ⊢
      split at hq
      · rename_i sz rows hr
        have hne : (evX a x).c1 ≠ .undef := by intro e; rw [e] at hr; simp [rowsOf] at hr
        rw [le_c1 h rfl hne, le_rowsOf h hr]; exact hq
      · simp at hq
end
def lendOk (st : St) : List Cell → Bool
  | [] => true
  | c :: cs => (match c with
    | .undef => true
    | .int _ _ => true
    | .bool _ => true
    | .str _ => true
    | .ro _ _ => true
    | .rptr _ => true
    | .own _ [] => true
    | .al p => (rowsAt st p).isSome
    | _ => false) && lendOk st cs
def scalCells : List Cell → Option (List D)
  | [] => some []
  | .int k n :: cs => (match scalCells cs with | some l => some (.int k n :: l) | none => none)
  | .bool b :: cs => (match scalCells cs with | some l => some (.bool b :: l) | none => none)
  | .str s :: cs => (match scalCells cs with | some l => some (.str s :: l) | none => none)
  | _ => none
def argsOk (st : St) : List (Bool × SV) → Bool
  | [] => true
  | (own, x) :: l => !own && x.known && lendOk st x.cs && argsOk st l
def Cell.notAl : Cell → Bool
  | .al _ => false
  | _ => true
theorem takes_none (x : XO) (tk : Bool) (r : Nat → Root) : ∀ (j : Nat) (cs : List Cell), cs.all Cell.notAl = true → takes x tk r j cs = []
  | _, [], _ => rfl
  | j, c :: cs, h => by
    simp only [List.all_cons, Bool.and_eq_true] at h
    simp only [takes, takes_none x tk r (j + 1) cs h.2]
    cases c <;> first | rfl | simp [Cell.notAl] at h
def vop (E : Env) (st : St) (op : XOp) : Option SV := match op with
  | .call f args refs => match refs with
    | [] => if argsOk st (evArgs st args) then (match E f (callArgs st [] [] (evArgs st args)) [] with
      | some (res, _, _) => if res.fresh then some res else none
      | none => none) else none
    | _ => none
  | .bslice sz parts => match partCells st parts with
    | some cs => match scalCells cs with
      | some ds => if cs.length = parts.length * sz ∧ (parts.all fun x => (evX st x).cs.length == sz) = true then some ⟨.one, [.own sz (chunk sz parts.length ds)]⟩ else none
      | none => none
    | none => none
  | .build zero parts => match buildCells st zero parts with
    | some cs => some ⟨.agg, cs⟩
    | none => none
  | .asg x _ => if (evX st x).cs.all Cell.notAl then some (evX st x) else none
  | op => vq st op
section
variable {E : Env} {a b : St}
theorem le_build (h : a.le b) : ∀ {ps : List (Nat × Nat × XO)} {cs cs' : List Cell}, buildCells a cs ps = some cs' → buildCells b cs ps = some cs'
  | [], _, _, hb => hb
  | (off, n, x) :: ps, cs, cs', hb => by
    simp only [buildCells] at hb ⊢
    by_cases hk : (evX a x).sh = .no
    · rw [hk] at hb; simp at hb
    · rw [le_known h hk]
      split at hb
      · rename_i hs
        split at hb
        · rename_i hc; rw [if_pos hc]; exact le_build h hb
        · simp at hb
      · rename_i hs
        split at hb
        · rename_i hc; rw [if_pos hc]; exact le_build h hb
        · simp at hb
      · simp at hb
theorem le_parts (h : a.le b) : ∀ {ps : List XO} {cs : List Cell}, partCells a ps = some cs → partCells b ps = some cs ∧ ∀ x ∈ ps, evX b x = evX a x
  | [], _, hb => ⟨hb, by simp⟩
  | x :: ps, cs, hb => by
    simp only [partCells] at hb ⊢
    by_cases hk : (evX a x).sh = .no
    · rw [hk] at hb; simp at hb
    · have hx := le_known h hk
      rw [hx]
      split at hb
      · rename_i cs1 hs h1
        obtain ⟨h2, h3⟩ := le_parts h h1
        rw [h2, hs]
        exact ⟨hb, fun y hy => by rcases List.mem_cons.1 hy with rfl | hy; exact hx; exact h3 y hy⟩
      · rename_i cs1 hs h1
        obtain ⟨h2, h3⟩ := le_parts h h1
        rw [h2, hs]
        exact ⟨hb, fun y hy => by rcases List.mem_cons.1 hy with rfl | hy; exact hx; exact h3 y hy⟩
      · simp at hb
theorem elem_scal (st : St) (p : Pl) : ∀ {cs : List Cell} {ds : List D}, scalCells cs = some ds → elemDs st p cs = some (ds, st)
  | [], _, h => by simp only [scalCells, Option.some.injEq] at h; subst h; rfl
  | c :: cs, ds, h => by
    cases c <;> simp only [scalCells] at h <;> try (simp at h; done)
    all_goals
      split at h
      · rename_i l hl
        simp only [Option.some.injEq] at h; subst h
        simp only [elemDs, elem_scal st p hl, Option.map_some]
      · simp at h
theorem lend_mono (h : a.le b) : ∀ {cs : List Cell}, lendOk a cs = true → argCells b [] [] false cs = argCells a [] [] false cs ∧ lentsOf b 0 false 0 cs = []
  | [], _ => ⟨rfl, rfl⟩
  | c :: cs, hl => by
    simp only [lendOk, Bool.and_eq_true] at hl
    obtain ⟨h1, _⟩ := lend_mono h hl.2
    have hr : roCell b [] [] c = roCell a [] [] c := by
      cases c with
      | al p =>
        obtain ⟨x, hx⟩ := Option.isSome_iff_exists.1 hl.1
        simp only [roCell, hx, le_rows h hx]
      | own sz rows => cases rows <;> rfl
      | undef => rfl
      | int _ _ => rfl
      | bool _ => rfl
      | str _ => rfl
      | ro _ _ => rfl
      | rptr _ => rfl
      | _ => simp at hl
    refine ⟨by simp only [argCells, h1, hr], ?_⟩
    have : ∀ (i j : Nat) (cs : List Cell), lentsOf b i false j cs = [] := by
      intro i j cs
      induction cs generalizing j with
      | nil => rfl
      | cons c cs ih => simp only [lentsOf, ih]; rfl
    exact this _ _ _
theorem args_mono (h : a.le b) : ∀ {args : List (Bool × XO)} , argsOk a (evArgs a args) = true → evArgs b args = evArgs a args ∧ callArgs b [] [] (evArgs a args) = callArgs a [] [] (evArgs a args) ∧
    (∀ j, allLents b j (evArgs a args) = []) ∧ (evArgs a args).all (fun x => x.2.known) = true
  | [], _ => ⟨rfl, rfl, fun _ => rfl, rfl⟩
  | (own, x) :: args, hk => by
    simp only [evArgs, List.map_cons, argsOk, Bool.and_eq_true, Bool.not_eq_true'] at hk
    obtain ⟨⟨⟨rfl, hk2⟩, hk3⟩, hk4⟩ := hk
    obtain ⟨h1, h2, h3, h4⟩ := args_mono h (args := args) hk4
    have hx : evX b x = evX a x := le_known h (by intro e; simp [SV.known, e] at hk2)
    have hl : ∀ (i j : Nat) (cs : List Cell), lentsOf b i false j cs = [] := by
      intro i j cs
      induction cs generalizing j with
      | nil => rfl
      | cons c cs ih => simp only [lentsOf, ih]; rfl
    refine ⟨?_, ?_, fun j => ?_, ?_⟩
    · simp only [evArgs, List.map_cons, hx] at h1 ⊢; rw [h1]
    · simp only [evArgs, List.map_cons, callArgs] at h2 ⊢; rw [h2, (lend_mono h hk3).1]
    · simp only [evArgs, List.map_cons, allLents, hl] at h3 ⊢; rw [h3]; rfl
    · simp only [evArgs, List.map_cons, List.all_cons, Bool.and_eq_true] at h4 ⊢; exact ⟨hk2, h4⟩
theorem le_step (h : a.le b) {op : XOp} {y : SV} {d : Nat} (hk : y.sh ≠ .no) (hv : vop E a op = some y) (hd : (look b.sl d).sh = .no) : step E b (some d) op = some (putSlot b d y) := by
  have quiet : vq a op = some y → step E b (some d) op = putQ b d (qop b op) → vq b op = qop b op → step E b (some d) op = some (putSlot b d y) := by
    intro h1 h2 h3
    have := le_vq h hk h1
    rw [h3] at this
    rw [h2, this]; rfl
  cases op <;> simp only [vop] at hv <;> first
    | (exact quiet hv rfl rfl)
    | (simp [vq] at hv; done)
    | skip
  · rename_i x tk
    split at hv
    · rename_i hc
      simp only [Option.some.injEq] at hv; subst hv
      simp only [step, asgSt, le_known h hk]
      rw [takes_none _ _ _ _ _ hc]; rfl
    · simp at hv
  · rename_i zero parts
    split at hv
    · rename_i cs hc
      simp only [Option.some.injEq] at hv; subst hv
      simp only [step, le_build h hc, putA]
    · simp at hv
  · rename_i sz parts
    split at hv
    · rename_i cs hc
      split at hv
      · rename_i ds hds
        split at hv
        · rename_i hcond
          simp only [Option.some.injEq] at hv; subst hv
          obtain ⟨h1, h2⟩ := le_parts h hc
          simp only [step, bsliceSt, h1]
          have hall : (parts.all fun x => (evX b x).cs.length == sz) = true := by
            rw [List.all_eq_true] at hcond ⊢
            intro x hx
            rw [h2 x hx]; exact hcond.2 x hx
          rw [if_pos ⟨hcond.1, hall⟩, elem_scal _ _ hds]
        · simp at hv
      · simp at hv
    · simp at hv
  · rename_i f args refs
    split at hv
    · split at hv
      · rename_i hargs
        split at hv
        · rename_i res _ _ hE
          split at hv
          · rename_i hfr
            simp only [Option.some.injEq] at hv; subst hv
            obtain ⟨h1, h2, h3, h4⟩ := args_mono h hargs
            simp only [step, callSt, h1, h3, lentsOk, rootsNodup, natsNodup, List.all_nil, Bool.and_self, cellsNodup, h4, if_true, callRefs, h2, hE, hfr, List.length_nil, refsThere, afterSt, putDst]
          · simp at hv
        · simp at hv
      · simp at hv
    · simp at hv
end
structure XD where
  i : XI
  cl : List Nat
  drop : List Nat
inductive Out where
  | val (y : SV)
  | skip
  | al (cs : List Cell)
def Out.sv (d : Nat) : Out → SV
  | .val y => y
  | .skip => ⟨.tup [], []⟩
  | .al _ => ⟨.one, [.ptr d 0]⟩
def outPut (st : St) (d : Nat) (o : Out) : St := match o with
  | .al cs => ⟨putS st.sl d (o.sv d), putR st.rf d cs, st.gh⟩
  | o => ⟨putS st.sl d (o.sv d), st.rf, st.gh⟩
def gWant (st : St) : Option (Nat × Bool) → Option Bool
  | none => some true
  | some (t, w) => match (look st.sl t).sh, (look st.sl t).cs with
    | .one, [.bool b] => some (b == w)
    | .tup [], [] => some false
    | _, _ => none
def noHit (d : Nat) (st : St) (cs : List Cell) : Prop := mapS st.sl (SV.filt (hitK d)) = st.sl ∧ mapR st.rf (fun l => l.map (Cell.filt (hitK d))) = st.rf ∧ mapS st.gh (SV.filt (hitK d)) = st.gh ∧ cs.map (Cell.filt (hitK d)) = cs
def okOut (P : Program) (x : XD) (d : Nat) (st : St) : Out → Prop
  | .val y => y.sh ≠ .no ∧ (∃ E, EnvOk P E ∧ vop E (dropOnly x.drop st) x.i.op = some y) ∧ gWant (dropOnly x.drop st) x.i.guard = some true
  | .skip => gWant (dropOnly x.drop st) x.i.guard = some false
  | .al cs => x.i.op = .alloc cs ∧ x.i.guard = none ∧ lookR st.rf d = none ∧ noHit d st cs
def Res (P : Program) (xs : List XD) (os : List Out) (C : Nat → St) : Prop :=
  ∀ i, i < xs.length → ∃ x o d, xs[i]? = some x ∧ os[i]? = some o ∧ x.i.dst = some d ∧ look (C i).sl d = .undef ∧ okOut P x d (C i) o ∧ C (i + 1) = outPut (C i) d o
def SV.absent (x : SV) : Bool := match x.sh, x.cs with
  | .no, [] => true
  | _, _ => false
def dvPut (d : Nat) (K : St → Prop) (st : St) (y : SV) : Prop := y.known = true ∧ K ⟨putS st.sl d y, st.rf, st.gh⟩
def dvK (d : Nat) (K : St → Prop) (st : St) (res : SV) (args' : List SV) (rf' : Refs) : Prop := res.fresh = true ∧ dvPut d K st res
def dvCall (P : Program) (d : Nat) (K : St → Prop) (st s : St) (f : FuncId) (args : List (Bool × SV)) : List Nat → Prop
  | [] => argsOk s args = true ∧ CallW P f (callArgs s [] [] args) [] (dvK d K st)
  | _ => False
def dvGo (P : Program) (x : XD) (d : Nat) (K : St → Prop) (st : St) : Prop := match x.i.op with
  | .alloc cs => x.i.guard = none ∧ lookR st.rf d = none ∧ noHit d st cs ∧ K ⟨putS st.sl d ⟨.one, [.ptr d 0]⟩, putR st.rf d cs, st.gh⟩
  | .call f args refs => dvCall P d K st (dropOnly x.drop st) f (evArgs (dropOnly x.drop st) args) refs
  | op => Opt (vop noE (dropOnly x.drop st) op) (dvPut d K st)
def dvSkip (d : Nat) (K : St → Prop) (st : St) : Prop := K ⟨putS st.sl d ⟨.tup [], []⟩, st.rf, st.gh⟩
def dvG (want : Bool) (yes no : Prop) : Bool → Prop
  | true => match want with
    | true => yes
    | false => no
  | false => match want with
    | true => no
    | false => yes
def DV (P : Program) : List XD → (St → Prop) → St → Prop
  | [], K, st => K st
  | x :: xs, K, st => match x.i.dst with
    | some d => (look st.sl d).absent = true ∧ (match x.i.guard with
      | none => dvGo P x d (DV P xs K) st
      | some (t, want) => match (look (dropOnly x.drop st).sl t).sh, (look (dropOnly x.drop st).sl t).cs with
        | .one, [.bool b] => Br b (dvG want (dvGo P x d (DV P xs K) st) (dvSkip d (DV P xs K) st))
        | .tup [], [] => dvSkip d (DV P xs K) st
        | _, _ => False)
    | none => False
section
variable {P : Program}
theorem known_iff {x : SV} : x.known = true ↔ x.sh ≠ .no := by
  obtain ⟨sh, cs⟩ := x
  cases sh <;> simp [SV.known]
theorem DV_res : ∀ (xs : List XD) (K : St → Prop) (st : St), DV P xs K st → ∃ os C, os.length = xs.length ∧ C 0 = st ∧ Res P xs os C ∧ K (C xs.length)
  | [], K, st, h => ⟨[], fun _ => st, rfl, rfl, fun i hi => by simp at hi, h⟩
  | x :: xs, K, st, h => by
    simp only [DV] at h
    split at h
    · rename_i d hd
      obtain ⟨hfresh, h⟩ := h
      have hfr : look st.sl d = .undef := by
        generalize look st.sl d = v at hfresh
        obtain ⟨sh, cs⟩ := v
        cases sh <;> cases cs <;> simp [SV.absent] at hfresh <;> rfl
      have cons : ∀ (o : Out), okOut P x d st o → DV P xs K (outPut st d o) → ∃ os C, os.length = (x :: xs).length ∧ C 0 = st ∧ Res P (x :: xs) os C ∧ K (C (x :: xs).length) := by
        intro o ho hk
        obtain ⟨os, C, h1, h2, h3, h4⟩ := DV_res xs K _ hk
        refine ⟨o :: os, fun i => match i with | 0 => st | i + 1 => C i, by simp [h1], rfl, fun i hi => ?_, h4⟩
        cases i with
        | zero => exact ⟨x, o, d, rfl, rfl, hd, hfr, ho, h2⟩
        | succ i =>
          obtain ⟨x', o', d', e1, e2, e3, e4, e5, e6⟩ := h3 i (by simpa using hi)
          exact ⟨x', o', d', by simpa using e1, by simpa using e2, e3, e4, e5, e6⟩
      have go : gWant (dropOnly x.drop st) x.i.guard = some true → dvGo P x d (DV P xs K) st → ∃ os C, os.length = (x :: xs).length ∧ C 0 = st ∧ Res P (x :: xs) os C ∧ K (C (x :: xs).length) := by
        intro hg hgo
        unfold dvGo at hgo
        split at hgo
        · rename_i cs hop
          exact cons (.al cs) ⟨hop, hgo.1, hgo.2.1, hgo.2.2.1⟩ hgo.2.2.2
        · rename_i f args refs hop
          unfold dvCall at hgo
          split at hgo
          · obtain ⟨h1, res, a2, r2, h2, h3, h4, h5⟩ := hgo
            refine cons (.val res) ⟨known_iff.1 h5.1, ⟨_, oneE_ok h2 h3, ?_⟩, hg⟩ h5.2
            rw [hop]
            simp only [vop]
            rw [if_pos h1, oneE_eq]
            simp only
            rw [if_pos h4]
          · exact hgo.elim
        · rename_i op _ _
          obtain ⟨y, hy, hk⟩ := hgo
          exact cons (.val y) ⟨known_iff.1 hk.1, ⟨noE, noE_ok, hy⟩, hg⟩ hk.2
      have sk : gWant (dropOnly x.drop st) x.i.guard = some false → dvSkip d (DV P xs K) st → ∃ os C, os.length = (x :: xs).length ∧ C 0 = st ∧ Res P (x :: xs) os C ∧ K (C (x :: xs).length) := by
        intro hg hk
        exact cons .skip hg hk
      split at h
      · rename_i hg; exact go (by rw [hg]; rfl) h
      · rename_i t want hg
        split at h
        · rename_i b hs hc
          have hw : gWant (dropOnly x.drop st) x.i.guard = some (b == want) := by rw [hg]; simp only [gWant, hs, hc]
          cases b <;> cases want <;> simp only [Br, dvG] at h
          · exact go hw h
          · exact sk hw h
          · exact sk hw h
          · exact go hw h
        · rename_i hs hc
          exact sk (by rw [hg]; simp only [gWant, hs, hc]) h
        · exact h.elim
    · exact h.elim
structure Rep (xs : List XD) (os : List Out) (st0 : St) (X : Nat → Bool) (s : St) : Prop where
  gh : s.gh = st0.gh
  sl : ∀ i x o d, X i = true → xs[i]? = some x → os[i]? = some o → x.i.dst = some d → look s.sl d = o.sv d
  sl0 : ∀ t, (∀ i x, X i = true → xs[i]? = some x → x.i.dst ≠ some t) → look s.sl t = look st0.sl t
  rf : ∀ i x cs d, X i = true → xs[i]? = some x → os[i]? = some (.al cs) → x.i.dst = some d → lookR s.rf d = some cs
  rf0 : ∀ k, (∀ i x cs, X i = true → xs[i]? = some x → os[i]? = some (.al cs) → x.i.dst ≠ some k) → lookR s.rf k = lookR st0.rf k
theorem Out.sv_known {o : Out} {d : Nat} {x : XD} {st : St} (h : okOut P x d st o) : (o.sv d).sh ≠ .no := by
  cases o with
  | val y => exact h.1
  | skip => simp [Out.sv]
  | al cs => simp [Out.sv]
theorem look_outPut (st : St) (d : Nat) (o : Out) (t : Nat) : look (outPut st d o).sl t = if d = t then o.sv d else look st.sl t := by
  cases o <;> simp only [outPut, look_putS]
theorem gh_outPut (st : St) (d : Nat) (o : Out) : (outPut st d o).gh = st.gh := by cases o <;> rfl
theorem rf_outPut (st : St) (d : Nat) (o : Out) (k : Nat) : lookR (outPut st d o).rf k = match o with
    | .al cs => if d = k then some cs else lookR st.rf k
    | _ => lookR st.rf k := by cases o <;> simp only [outPut, lookR_putR]
theorem Res.rep {xs : List XD} {os : List Out} {C : Nat → St} (h : Res P xs os C) : ∀ i, i ≤ xs.length → Rep xs os (C 0) (fun j => decide (j < i)) (C i) := by
  intro i
  induction i with
  | zero => exact fun _ => ⟨rfl, fun i x o d hi => by simp at hi, fun _ _ => rfl, fun i x cs d hi => by simp at hi, fun _ _ => rfl⟩
  | succ i ih =>
    intro hi
    have hr := ih (by omega)
    obtain ⟨x, o, d, h1, h2, h3, h4, h5, h6⟩ := h i (by omega)
    have hdist : ∀ j y d', j < i → xs[j]? = some y → y.i.dst = some d' → d' ≠ d := by
      intro j y d' hj hy hd' e
      subst e
      obtain ⟨x', o', d'', e1, e2, e3, _, e5, _⟩ := h j (by omega)
      rw [hy] at e1; injection e1 with e1; subst e1
      rw [hd'] at e3; injection e3 with e3; subst e3
      have := hr.sl j y o' d' (by simpa using hj) hy e2 hd'
      rw [this] at h4
      exact Out.sv_known e5 (by rw [h4])
    refine ⟨by rw [h6, gh_outPut, hr.gh], fun j y o' d' hj hy ho hd' => ?_, fun t ht => ?_, fun j y cs d' hj hy ho hd' => ?_, fun k hk => ?_⟩
    · rw [h6, look_outPut]
      by_cases e : j = i
      · subst e
        rw [hy] at h1; injection h1 with h1; subst h1
        rw [ho] at h2; injection h2 with h2; subst h2
        rw [hd'] at h3; injection h3 with h3; subst h3
        rw [if_pos rfl]
      · have hlt : j < i := by simp only [decide_eq_true_eq] at hj; omega
        rw [if_neg (Ne.symm (hdist j y d' hlt hy hd'))]
        exact hr.sl j y o' d' (by simpa using hlt) hy ho hd'
    · rw [h6, look_outPut, if_neg (fun e => by subst e; exact ht i x (by simp) h1 h3)]
      exact hr.sl0 t fun j y hj hy => ht j y (by simp only [decide_eq_true_eq] at hj ⊢; omega) hy
    · rw [h6, rf_outPut]
      by_cases e : j = i
      · subst e
        rw [hy] at h1; injection h1 with h1; subst h1
        rw [ho] at h2; injection h2 with h2; subst h2
        rw [hd'] at h3; injection h3 with h3; subst h3
        simp only [if_true]
      · have hlt : j < i := by simp only [decide_eq_true_eq] at hj; omega
        have := hr.rf j y cs d' (by simpa using hlt) hy ho hd'
        split
        · rw [if_neg (Ne.symm (hdist j y d' hlt hy hd'))]; exact this
        · exact this
    · have h0 := hr.rf0 k fun j y cs hj hy ho => hk j y cs (by simp only [decide_eq_true_eq] at hj ⊢; omega) hy ho
      rw [h6, rf_outPut]
      split
      · rename_i cs
        rw [if_neg (fun e => by subst e; exact hk i x cs (by simp) h1 h2 h3)]; exact h0
      · exact h0
end
def dropOk (xs : List XD) : Bool := (List.range xs.length).all fun i => match xs[i]? with
  | some x => (List.range i).all fun j => x.cl.contains j || (match xs[j]? with
    | some y => (match y.i.dst with
      | some d => x.drop.contains d
      | none => false)
    | none => false)
  | none => true
theorem dropOk_spec {xs : List XD} (h : dropOk xs = true) {i j : Nat} {x y : XD} {d : Nat} (hx : xs[i]? = some x) (hj : j < i) (hy : xs[j]? = some y) (hd : y.i.dst = some d) : x.cl.contains j = true ∨ x.drop.contains d = true := by
  unfold dropOk at h
  rw [List.all_eq_true] at h
  have h1 := h i (by simpa using (List.getElem?_eq_some_iff.1 hx).1)
  simp only [hx, List.all_eq_true] at h1
  have h2 := h1 j (by simpa using hj)
  simp only [hy, hd, Bool.or_eq_true] at h2
  exact h2
theorem look_dropOnly (l : List Nat) (st : St) (t : Nat) : look (dropOnly l st).sl t = if l.contains t then .undef else look st.sl t := by
  unfold dropOnly
  split
  · simp
  · simp only [look_keepS]
    cases hc : List.contains _ t <;> simp [hc]
theorem lookR_dropOnly (l : List Nat) (st : St) (t : Nat) : lookR (dropOnly l st).rf t = if l.contains t then none else lookR st.rf t := by
  unfold dropOnly
  split
  · simp
  · simp only [lookR_keepS]
    cases hc : List.contains _ t <;> simp [hc]
theorem gh_dropOnly (l : List Nat) (st : St) : (dropOnly l st).gh = st.gh := by unfold dropOnly; split <;> rfl
section
variable {P : Program} {xs : List XD} {os : List Out} {C : Nat → St} {X : Nat → Bool} {s : St}
theorem Res.inj (h : Res P xs os C) {i j : Nat} {x y : XD} {d : Nat} (hx : xs[i]? = some x) (hy : xs[j]? = some y) (hdx : x.i.dst = some d) (hdy : y.i.dst = some d) : i = j := by
  have key : ∀ {i j : Nat} {x y : XD}, i < j → xs[i]? = some x → xs[j]? = some y → x.i.dst = some d → y.i.dst = some d → False := by
    intro i j x y hij hx hy hdx hdy
    have hj := (List.getElem?_eq_some_iff.1 hy).1
    obtain ⟨y', o', d', e1, e2, e3, e4, _⟩ := h j hj
    rw [hy] at e1; injection e1 with e1; subst e1
    rw [hdy] at e3; injection e3 with e3; subst e3
    obtain ⟨x', o2, d2, f1, f2, f3, _, f5, _⟩ := h i (by omega)
    rw [hx] at f1; injection f1 with f1; subst f1
    rw [hdx] at f3; injection f3 with f3; subst f3
    have := (h.rep j (by omega)).sl i x o2 d (by simpa using hij) hx f2 hdx
    rw [this] at e4
    exact Out.sv_known f5 (by rw [e4])
  rcases Nat.lt_trichotomy i j with hij | hij | hij
  · exact (key hij hx hy hdx hdy).elim
  · exact hij
  · exact (key hij hy hx hdy hdx).elim
theorem Res.fresh0 (h : Res P xs os C) {i : Nat} {x : XD} {d : Nat} (hx : xs[i]? = some x) (hd : x.i.dst = some d) : look (C 0).sl d = .undef := by
  have hi := (List.getElem?_eq_some_iff.1 hx).1
  obtain ⟨x', o', d', e1, e2, e3, e4, _⟩ := h i hi
  rw [hx] at e1; injection e1 with e1; subst e1
  rw [hd] at e3; injection e3 with e3; subst e3
  rw [← (h.rep i (by omega)).sl0 d (fun j y hj hy hdy => by
    have := h.inj hy hx hdy hd
    simp only [decide_eq_true_eq] at hj; omega)]
  exact e4
theorem Res.fresh0R (h : Res P xs os C) {i : Nat} {x : XD} {d : Nat} {cs : List Cell} (hx : xs[i]? = some x) (ho : os[i]? = some (.al cs)) (hd : x.i.dst = some d) : lookR (C 0).rf d = none := by
  have hi := (List.getElem?_eq_some_iff.1 hx).1
  obtain ⟨x', o', d', e1, e2, e3, e4, e5, _⟩ := h i hi
  rw [hx] at e1; injection e1 with e1; subst e1
  rw [hd] at e3; injection e3 with e3; subst e3
  rw [ho] at e2; injection e2 with e2; subst e2
  rw [← (h.rep i (by omega)).rf0 d (fun j y cs hj hy _ hdy => by
    have := h.inj hy hx hdy hd
    simp only [decide_eq_true_eq] at hj; omega)]
  exact e5.2.2.1
theorem Rep.fresh (h : Res P xs os C) (hs : Rep xs os (C 0) X s) {i : Nat} {x : XD} {d : Nat} (hx : xs[i]? = some x) (hd : x.i.dst = some d) (hi : X i = false) : look s.sl d = .undef := by
  rw [hs.sl0 d (fun j y hj hy hdy => by
    have := h.inj hy hx hdy hd
    subst this; rw [hi] at hj; simp at hj)]
  exact h.fresh0 hx hd
theorem Rep.le (h : Res P xs os C) (hs : Rep xs os (C 0) X s) (hdr : dropOk xs = true) {i : Nat} {x : XD} (hx : xs[i]? = some x) (hcl : ∀ j, x.cl.contains j = true → X j = true) : (dropOnly x.drop (C i)).le s := by
  have hi := (List.getElem?_eq_some_iff.1 hx).1
  have hr := h.rep i (by omega)
  refine ⟨fun t => ?_, fun k cs hk => ?_, by rw [gh_dropOnly, hr.gh, hs.gh]⟩
  · rw [look_dropOnly]
    split
    · exact .inr rfl
    · rename_i hnd
      by_cases he : ∃ j y, j < i ∧ xs[j]? = some y ∧ y.i.dst = some t
      · obtain ⟨j, y, hj, hy, hd⟩ := he
        obtain ⟨y', o', d', e1, e2, e3, _⟩ := h j (by omega)
        rw [hy] at e1; injection e1 with e1; subst e1
        rw [hd] at e3; injection e3 with e3; subst e3
        have hX := hcl j ((dropOk_spec hdr hx hj hy hd).resolve_right hnd)
        left
        rw [hr.sl j y o' t (by simpa using hj) hy e2 hd, hs.sl j y o' t hX hy e2 hd]
      · have h0 : look (C i).sl t = look (C 0).sl t := hr.sl0 t fun j y hj hy hd => he ⟨j, y, by simpa using hj, hy, hd⟩
        rw [h0]
        by_cases hk : ∃ k z, X k = true ∧ xs[k]? = some z ∧ z.i.dst = some t
        · obtain ⟨k, z, _, hz, hd⟩ := hk
          exact .inr (by rw [h.fresh0 hz hd])
        · left
          rw [hs.sl0 t fun k z hX hz hd => hk ⟨k, z, hX, hz, hd⟩]
  · rw [lookR_dropOnly] at hk
    split at hk
    · simp at hk
    · rename_i hnd
      by_cases he : ∃ j y cs', j < i ∧ xs[j]? = some y ∧ os[j]? = some (.al cs') ∧ y.i.dst = some k
      · obtain ⟨j, y, cs', hj, hy, ho, hd⟩ := he
        have hX := hcl j ((dropOk_spec hdr hx hj hy hd).resolve_right hnd)
        rw [hr.rf j y cs' k (by simpa using hj) hy ho hd] at hk
        rw [hs.rf j y cs' k hX hy ho hd]; exact hk
      · have h0 : lookR (C i).rf k = lookR (C 0).rf k := hr.rf0 k fun j y cs' hj hy ho hd => he ⟨j, y, cs', by simpa using hj, hy, ho, hd⟩
        rw [h0] at hk
        rw [hs.rf0 k fun j z cs' hX hz ho hd => by
          have := h.fresh0R hz ho hd
          rw [this] at hk; simp at hk]
        exact hk
theorem Rep.put (h : Res P xs os C) (hs : Rep xs os (C 0) X s) {i : Nat} {x : XD} {o : Out} {d : Nat} {s' : St} (hx : xs[i]? = some x) (ho : os[i]? = some o) (hd : x.i.dst = some d)
    (hgh : s'.gh = s.gh) (hsl : ∀ t, look s'.sl t = if d = t then o.sv d else look s.sl t) (hrf : ∀ k, lookR s'.rf k = lookR (outPut s d o).rf k) : Rep xs os (C 0) (fun j => X j || decide (j = i)) s' := by
  refine ⟨by rw [hgh, hs.gh], fun j y o' d' hj hy ho' hd' => ?_, fun t ht => ?_, fun j y cs d' hj hy ho' hd' => ?_, fun k hk => ?_⟩
  · rw [hsl]
    by_cases e : j = i
    · subst e
      rw [hx] at hy; injection hy with hy; subst hy
      rw [ho] at ho'; injection ho' with ho'; subst ho'
      rw [hd] at hd'; injection hd' with hd'; subst hd'
      rw [if_pos rfl]
    · rw [if_neg (fun e2 => by subst e2; exact e (h.inj hy hx hd' hd))]
      exact hs.sl j y o' d' (by simpa [e] using hj) hy ho' hd'
  · rw [hsl, if_neg (fun e => by subst e; exact ht i x (by simp) hx hd)]
    exact hs.sl0 t fun j y hj hy => ht j y (by simp [hj]) hy
  · rw [hrf, rf_outPut]
    by_cases e : j = i
    · subst e
      rw [hx] at hy; injection hy with hy; subst hy
      rw [ho] at ho'; injection ho' with ho'; subst ho'
      rw [hd] at hd'; injection hd' with hd'; subst hd'
      simp only [if_true]
    · have := hs.rf j y cs d' (by simpa [e] using hj) hy ho' hd'
      split
      · rw [if_neg (fun e2 => by subst e2; exact e (h.inj hy hx hd' hd))]; exact this
      · exact this
  · have h0 := hs.rf0 k fun j y cs hj hy ho' => hk j y cs (by simp [hj]) hy ho'
    rw [hrf]
    cases o with
    | al cs =>
      simp only [outPut, lookR_putR]
      rw [if_neg (fun e => by subst e; exact hk i x _ (by simp) hx ho hd)]; exact h0
    | val y => exact h0
    | skip => exact h0
end
def Sit (ω0 : Nat → Lab) (m0 : Mc) (N : Nat) (a : Act) (w : World) (st : St) : Prop :=
  a.defers = [] ∧ a.tmps.size = N ∧ ∃ ω rb, RR ω ⟨a.tmps, m0.G, w, rb⟩ st ∧ Tr ω0 ⟨a.tmps, m0.G, m0.w, m0.rb⟩ ω ⟨a.tmps, m0.G, w, rb⟩
section
variable {P : Program} {E : Env} {ω0 : Nat → Lab} {m0 : Mc} {N : Nat}
theorem Tr.tmps {ω ω' : Nat → Lab} {T T' T1 : Array Value} {G : Array Value} {w w' : World} {rb rb' : Nat → Nat} (h : Tr ω ⟨T, G, w, rb⟩ ω' ⟨T', G, w', rb'⟩) : Tr ω ⟨T1, G, w, rb⟩ ω' ⟨T1, G, w', rb'⟩ :=
  ⟨h.os, h.tape, h.output, h.size, h.fr, rfl, rfl, h.rb⟩
theorem Sit.kill {a : Act} {w : World} {st : St} (h : Sit ω0 m0 N a w st) (l : List Nat) : Sit ω0 m0 N a w (killSt l st) := by
  unfold killSt
  split
  · exact h
  · obtain ⟨h1, h2, ω, rb, h3, h4⟩ := h
    exact ⟨h1, h2, ω, rb, h3.forget, h4⟩
theorem Sit.killR {a : Act} {w : World} {st : St} (h : Sit ω0 m0 N a w st) (l : List Nat) : Sit ω0 m0 N a w (killR l st) := by
  unfold Eng.killR
  split
  · exact h
  · obtain ⟨h1, h2, ω, rb, h3, h4⟩ := h
    exact ⟨h1, h2, ω, rb, h3.forget, h4⟩
theorem put_size (a : Act) (d : Option Nat) (v : Value) : (a.put d v).tmps.size = a.tmps.size := by cases d <;> simp [Act.put]
theorem SVR_of_eq {ω : Nat → Lab} {m : Mc} {st : St} (h : RR ω m st) {t : Nat} {b : Bool} (hb : (look st.sl t).c1 = .bool b) : m.T.getD t undef = .bool b := by
  have hv := (SVR_c1 (h.r.sl t) (by rw [hb]; simp)).2
  rw [hb] at hv; exact hv
theorem tmp_bool {T : Array Value} {t : Nat} {b : Bool} (h : T.getD t undef = .bool b) : T[t]? = some (.bool b) := by
  rw [Array.getD_eq_getD_getElem?] at h
  cases hx : T[t]? with
  | none => rw [hx] at h; simp [undef] at h
  | some v => rw [hx] at h; simpa using h
theorem RR.putU {ω : Nat → Lab} {m : Mc} {st : St} (h : RR ω m st) {d : Nat} (v : Value) (hd : (look st.sl d).sh = .no) : RR ω { m with T := m.T.setIfInBounds d v } st := by
  have h1 := h.r.sameW (m' := { m with T := m.T.setIfInBounds d v }) (fun _ => false) rfl rfl rfl (fun s => by
    by_cases e : d = s
    · subst e; exact .inr hd
    · left
      simp [Array.getD_eq_getD_getElem?, Array.getElem?_setIfInBounds_ne e]) (fun r p hp _ => by
    have hal := h.al r p hp
    cases hr : p.r with
    | slot s c =>
      rw [hr] at hal
      simp only [hdR]
      have hne : d ≠ s := by
        intro e; subst e
        simp [rootCell, SV.get, hd, Cell.isOwn] at hal
      simp [Array.getD_eq_getD_getElem?, Array.getElem?_setIfInBounds_ne hne]
    | _ => rfl)
  rw [filt_false] at h1
  exact ⟨h1, h.al⟩
theorem look_killSt {ks : List Nat} {st : St} {d : Nat} (h : ks.contains d = true) : (look (killSt ks st).sl d).sh = .no := by
  unfold killSt
  split
  · simp at h
  · unfold forget
    split <;> simp only [look_keepS] <;> rw [if_neg (by simpa using h)]
theorem Sit.putU {a : Act} {w : World} {st : St} (h : Sit ω0 m0 N a w st) {d : Nat} (v : Value) (hd : (look st.sl d).sh = .no) : Sit ω0 m0 N (a.put (some d) v) w st := by
  obtain ⟨h1, h2, ω, rb, h3, h4⟩ := h
  exact ⟨h1, by simpa [Act.put] using h2, ω, rb, by simpa [Act.put] using h3.putU v hd, Tr.tmps h4⟩
theorem wanted_of {ops : Array Oper} {o : Oper} {i : XI} {T : Array Value} (hg : mG ops o.guard i.guard = true) : (i.guard = none → Region.wanted o (yielded ops T) = true) ∧
    (∀ t w b, i.guard = some (t, w) → T[t]? = some (.bool b) → Region.wanted o (yielded ops T) = (b == w)) ∧ (∀ t w, i.guard = some (t, w) → T.getD t undef = undef → Region.wanted o (yielded ops T) = false) := by
  refine ⟨fun h => ?_, fun t w b h hv => ?_, fun t w h hv => ?_⟩
  · rw [h] at hg
    cases hgo : o.guard with
    | none => simp [Region.wanted, hgo]
    | some x => rw [hgo] at hg; obtain ⟨_, _⟩ := x; simp [mG] at hg
  · rw [h] at hg
    cases hgo : o.guard with
    | none => rw [hgo] at hg; simp [mG] at hg
    | some y =>
      obtain ⟨g, want'⟩ := y
      rw [hgo] at hg
      simp only [mG, Bool.and_eq_true, beq_iff_eq, decide_eq_true_eq] at hg
      obtain ⟨rfl, hgt⟩ := hg
      have hy : yielded ops T g = some b := by simp [yielded, hgt, hv]
      simp [Region.wanted, hgo, hy]
  · rw [h] at hg
    cases hgo : o.guard with
    | none => rw [hgo] at hg; simp [mG] at hg
    | some y =>
      obtain ⟨g, want'⟩ := y
      rw [hgo] at hg
      simp only [mG, Bool.and_eq_true, beq_iff_eq, decide_eq_true_eq] at hg
      obtain ⟨rfl, hgt⟩ := hg
      have hy : yielded ops T g = none := by
        simp only [yielded, hgt, Option.bind_some]
        cases hx : T[t]? with
        | none => rfl
        | some v =>
          have : v = undef := by rw [Array.getD_eq_getD_getElem?, hx] at hv; simpa using hv
          rw [this]; rfl
      simp [Region.wanted, hgo, hy]
theorem dead_sound {ops : Array Oper} {Q : Exit → Act → World → Prop} {t : Nat} {want b : Bool} (hbw : b ≠ want) {ks : List Nat} {st0 : St} (hks : ∀ d, ks.contains d = true → (look st0.sl d).sh = .no) :
    ∀ (os : List Oper) (is : List XI) (j : Nat) (U : List Nat) (R : List Nat) (a : Act) (w : World), (∀ i, i < os.length → os[i]? = ops[j + i]?) → mIs P N ops os is = true → deadOk t want U is = true → (∀ d ∈ dstsOf is, ks.contains d = true) →
      a.tmps[t]? = some (.bool b) → (∀ u ∈ U, a.tmps.getD u undef = undef) → Sit ω0 m0 N a w st0 →
      (∀ a', Sit ω0 m0 N a' w st0 → wpOps P ops Q R a' w) → wpOps P ops Q (List.range' j os.length ++ R) a w
  | [], [], j, U, R, a, w, _, _, _, _, _, _, hS, hK => by simpa using hK a hS
  | [], _ :: _, _, _, _, _, _, _, hm, _, _, _, _, _, _ => by simp [mIs] at hm
  | _ :: _, [], _, _, _, _, _, _, hm, _, _, _, _, _, _ => by simp [mIs] at hm
  | o :: os, i :: is, j, U, R, a, w, hg, hm, hdead, hds, ht, hU, hS, hK => by
    simp only [mIs, Bool.and_eq_true] at hm
    have h0 : ops[j]? = some o := by have := hg 0 (by simp); simpa using this.symm
    simp only [List.length_cons, List.range'_succ, List.cons_append, wpOps, h0]
    have hmi := hm.1
    simp only [mI, Bool.and_eq_true, decide_eq_true_eq] at hmi
    obtain ⟨⟨⟨hdst, hrng⟩, hgd⟩, hmE⟩ := hmi
    simp only [deadOk, Bool.and_eq_true] at hdead
    obtain ⟨hd1, hd2⟩ := hdead
    cases hgi : i.guard with
    | none => rw [hgi] at hd1; simp at hd1
    | some x =>
      obtain ⟨g, w'⟩ := x
      cases hdi : i.dst with
      | none => rw [hgi, hdi] at hd1; simp at hd1
      | some d =>
        rw [hgi, hdi] at hd1
        simp only [Bool.and_eq_true, Bool.or_eq_true, beq_iff_eq, Bool.not_eq_true', beq_eq_false_iff_ne] at hd1
        obtain ⟨hg1, hne⟩ := hd1
        have hw : Region.wanted o (yielded ops a.tmps) = false := by
          rcases hg1 with ⟨rfl, rfl⟩ | hu
          · rw [(wanted_of hgd).2.1 _ _ b hgi ht]; simpa using hbw
          · exact (wanted_of hgd).2.2 _ _ hgi (hU g (by simpa using hu))
        rw [hw]
        simp only [Bool.false_eq_true, if_false]
        have hod : o.dst = some d := by rw [hdst, hdi]
        rw [hod]
        have hsize : d < a.tmps.size := by
          rw [hod] at hrng
          simp only [Bool.and_eq_true, decide_eq_true_eq] at hrng
          rw [hS.2.1]; exact hrng.1
        refine dead_sound hbw hks os is (j + 1) (d :: U) R _ w (fun k hk => ?_) hm.2 (by rw [hdi] at hd2; exact hd2) (fun d' hd' => hds d' (by simp [dstsOf, hdi, hd'])) ?_ ?_ (hS.putU undef (hks d (hds d (by simp [dstsOf, hdi])))) hK
        · have := hg (k + 1) (by simpa using hk)
          simp only [List.getElem?_cons_succ] at this
          rw [this]; congr 1; omega
        · simp only [Act.put]
          rw [Array.getElem?_setIfInBounds_ne hne]; exact ht
        · intro u hu
          simp only [Act.put]
          by_cases e : d = u
          · subst e; simp [Array.getD_eq_getD_getElem?, hsize]
          · rw [Array.getD_eq_getD_getElem?, Array.getElem?_setIfInBounds_ne e, ← Array.getD_eq_getD_getElem?]
            exact hU u (by rcases List.mem_cons.1 hu with rfl | hu; exact absurd rfl e; exact hu)
theorem mIs_append {ops : Array Oper} : ∀ {is1 is2 : List XI} {os : List Oper}, mIs P N ops os (is1 ++ is2) = true → ∃ os1 os2, os = os1 ++ os2 ∧ mIs P N ops os1 is1 = true ∧ mIs P N ops os2 is2 = true
  | [], is2, os, h => ⟨[], os, rfl, rfl, h⟩
  | i :: is1, is2, os, h => by
    cases os with
    | nil => simp [mIs] at h
    | cons o os =>
      simp only [List.cons_append, mIs, Bool.and_eq_true] at h
      obtain ⟨os1, os2, rfl, h1, h2⟩ := mIs_append h.2
      exact ⟨o :: os1, os2, rfl, by simp [mIs, h.1, h1], h2⟩
theorem wi_sound {ops : Array Oper} {Q : Exit → Act → World → Prop} : ∀ (x : XL) (K : St → Prop) (os : List Oper) (j : Nat) (R : List Nat), (∀ i, i < os.length → os[i]? = ops[j + i]?) → mIs P N ops os x.flat = true → scOk x = true →
    ∀ (st : St) (a : Act) (w : World), Sit ω0 m0 N a w st → WI P x K st → (∀ a w st, Sit ω0 m0 N a w st → K st → wpOps P ops Q R a w) →
      wpOps P ops Q (List.range' j os.length ++ R) a w
  | .nil, K, os, j, R, hg, hm, _, st, a, w, hS, hW, hQ => by
    cases os with
    | nil => simpa using hQ a w st hS hW
    | cons o os => simp [XL.flat, mIs] at hm
  | .op i r, K, [], j, R, hg, hm, hok, st, a, w, hS, hW, hQ => by simp [XL.flat, mIs] at hm
  | .op i r, K, o :: os, j, R, hg, hm, hok, st, a, w, hS, hW, hQ => by
    simp only [XL.flat, mIs, Bool.and_eq_true] at hm
    have h0 : ops[j]? = some o := by have := hg 0 (by simp); simpa using this.symm
    have hrest := wi_sound (ops := ops) (Q := Q) r K os (j + 1) R (fun k hk => by
      have := hg (k + 1) (by simpa using hk); simp only [List.getElem?_cons_succ] at this; rw [this]; congr 1; omega) hm.2 hok
    simp only [List.length_cons, List.range'_succ, List.cons_append, wpOps, h0]
    have hmi := hm.1
    simp only [mI, Bool.and_eq_true, decide_eq_true_eq] at hmi
    obtain ⟨⟨⟨hdst, hrng⟩, hgd⟩, hmE⟩ := hmi
    have hd : ∀ t, o.dst = some t → t < a.tmps.size ∧ t < KEY := fun t ht => by
      rw [ht] at hrng
      simp only [Bool.and_eq_true, decide_eq_true_eq] at hrng
      exact ⟨by rw [hS.2.1]; exact hrng.1, hrng.2⟩
    obtain ⟨hdf, hsz, ω, rb, hR, hT⟩ := hS
    have go : goK P i (WI P r K) st → o.wp P a w (wpOps P ops Q (List.range' (j + 1) os.length ++ R)) Q := by
      intro hgo
      unfold goK at hgo
      rw [← hdst] at hgo
      refine goW_sound (m := ⟨a.tmps, m0.G, w, rb⟩) hR rfl hmE hd hgo _ Q fun st' a' w' ω' rb' hk h1 h2 h3 => ?_
      have hS' : Sit ω0 m0 N a' w' st' := ⟨by rw [h1]; exact hdf, h3.T.trans hsz, ω', rb', h2,
        (Tr.tmps hT).trans ⟨h3.os, h3.tape, h3.output, h3.size, h3.fr, rfl, rfl, h3.rb⟩⟩
      exact hrest _ a' w' (hS'.killR i.kill) hk hQ
    have sk : skipK i (WI P r K) st → wpOps P ops Q (List.range' (j + 1) os.length ++ R) (a.put o.dst undef) w := by
      intro hk
      refine hrest _ _ w (Sit.killR ?_ i.kill) hk hQ
      rw [← hdst]
      cases hdd : o.dst with
      | none => exact ⟨hdf, hsz, ω, rb, hR, hT⟩
      | some d =>
        have := hR.put (d := d) (v := undef) (x := .undef) (hd d hdd).1 (SVR_no rfl) (fun c p hp => by simp [SV.get, Cell.places] at hp)
        exact ⟨hdf, by simpa [Act.put] using hsz, ω, rb, by simpa [Act.put, skipDst] using this, Tr.tmps hT⟩
    simp only [WI] at hW
    cases hgi : i.guard with
    | none =>
      rw [hgi] at hW
      rw [(wanted_of hgd).1 hgi, if_pos rfl]
      exact .inl (go hW)
    | some x =>
      obtain ⟨t, want⟩ := x
      rw [hgi] at hW
      simp only at hW
      split at hW
      · rename_i b hb
        rw [(wanted_of hgd).2.1 t want b hgi (tmp_bool (SVR_of_eq hR hb))]
        cases b <;> cases want <;> simp only [Br, guardK] at hW <;> simp only [beq_self_eq_true, if_true, reduceCtorEq, Bool.false_eq_true, if_false, beq_iff_eq] <;> first | exact .inl (go hW) | exact sk hW
      · exact hW.elim
  | .sc t want blk ks d g c rhs kill r, K, os, j, R, hg, hm, hok, st, a, w, hS, hW, hQ => by
    simp only [XL.flat] at hm
    obtain ⟨os1, os2, rfl, hm1, hm2⟩ := mIs_append hm
    cases os2 with
    | nil => simp [mIs] at hm2
    | cons o os2 =>
      simp only [mIs, Bool.and_eq_true] at hm2
      simp only [scOk, Bool.and_eq_true] at hok
      obtain ⟨⟨⟨hdead, hks⟩, hokb⟩, hokr⟩ := hok
      have hlen : List.range' j (os1 ++ o :: os2).length = List.range' j os1.length ++ (j + os1.length) :: List.range' (j + os1.length + 1) os2.length := by
        rw [List.length_append, List.length_cons, ← List.range'_append_1, List.range'_succ]
      rw [hlen, List.append_assoc, List.cons_append]
      have hg1 : ∀ i, i < os1.length → os1[i]? = ops[j + i]? := fun i hi => by rw [← hg i (by simp; omega), List.getElem?_append_left hi]
      have ho : ops[j + os1.length]? = some o := by rw [← hg os1.length (by simp)]; simp
      have hg2 : ∀ i, i < os2.length → os2[i]? = ops[j + os1.length + 1 + i]? := fun i hi => by
        rw [show j + os1.length + 1 + i = j + (os1.length + 1 + i) by omega, ← hg _ (by simp; omega), List.getElem?_append_right (by omega), show os1.length + 1 + i - os1.length = i + 1 by omega]
        simp
      have hrest := wi_sound (ops := ops) (Q := Q) r K os2 (j + os1.length + 1) R hg2 hm2.2 hokr
      simp only [WI] at hW
      split at hW
      · rename_i b hb
        obtain ⟨hsame, hc, hgate, x, hrun, hK⟩ := hW
        have hmi := hm2.1
        simp only [mI, pickXI, Bool.and_eq_true, decide_eq_true_eq] at hmi
        obtain ⟨⟨⟨hdst, hrng⟩, hgd⟩, hmE⟩ := hmi
        have hdst : o.dst = some d := of_decide_eq_true hdst
        -- the pick, whichever way it was reached
        have pick : ∀ (a' : Act) (w' : World), Sit ω0 m0 N a' w' (killSt ks st) → (b = want → ∃ st1, (evX st1 rhs).c1 = .bool x ∧ Sit ω0 m0 N a' w' st1) →
            wpOps P ops Q ((j + os1.length) :: (List.range' (j + os1.length + 1) os2.length ++ R)) a' w' := by
          intro a' w' hS' hx
          simp only [wpOps, ho]
          obtain ⟨hdf, hsz, ω, rb, hR, hT⟩ := hS'
          have hw : Region.wanted o (yielded ops a'.tmps) = true := by
            cases hgg : g with
            | none => exact (wanted_of (i := pickXI want d g c rhs) hgd).1 hgg
            | some y =>
              obtain ⟨tg, wg⟩ := y
              rw [hgg] at hgate
              rw [(wanted_of (i := pickXI want d g c rhs) hgd).2.1 tg wg wg hgg (tmp_bool (SVR_of_eq hR hgate))]
              simp
          rw [hw, if_pos rfl]
          left
          simp only [mE, mQ] at hmE
          split at hmE
          · rename_i c' a1 a2 hop
            simp only [Bool.and_eq_true] at hmE
            obtain ⟨⟨hmc, hma⟩, hmb⟩ := hmE
            have hcv : a'.eval c' = .bool b := (c1_of (m := ⟨a'.tmps, m0.G, w', rb⟩) hR rfl hmc hc (by simp) (fun _ => .res 0)).1
            have hres : (if b then a'.eval a1 else a'.eval a2) = .bool (scVal want b x) := by
              have hrv : b = want → ∀ z, mO z rhs = true → a'.eval z = .bool x := fun e z hz => by
                obtain ⟨st1, h1, _, _, ω1, rb1, hR1, _⟩ := hx e
                exact (c1_of (m := ⟨a'.tmps, m0.G, w', rb1⟩) hR1 rfl hz h1 (by simp) (fun _ => .res 0)).1
              have hconst : ∀ z q, mO z (.c ⟨.one, [.bool q]⟩) = true → a'.eval z = .bool q := fun z q hz => by
                have := (c1_of (c := .bool q) (m := ⟨a'.tmps, m0.G, w', rb⟩) hR rfl hz rfl (by simp) (fun _ => .res 0)).1
                exact this
              cases b <;> cases want <;> simp only [scVal, Bool.false_eq_true, if_false, if_true, Bool.true_and, Bool.false_and, Bool.true_or, Bool.false_or] at hma hmb ⊢
              · exact hrv rfl _ hmb
              · exact hconst _ _ hmb
              · exact hconst _ _ hma
              · exact hrv rfl _ hma
            unfold Oper.wp
            have hex : (execOp a'.eval o).run P w' = .ok (.value (.bool (scVal want b x))) w' := by
              simp only [execOp, hop, hcv, asBool, pure_bind, Sem.run_pure, hres]
            rw [hex, Oper.upon_value, hdst]
            have hdd : d < a'.tmps.size := by
              rw [hdst] at hrng
              simp only [Bool.and_eq_true, decide_eq_true_eq] at hrng
              rw [hsz]; exact hrng.1
            have hR2 := hR.put (d := d) (v := .bool (scVal want b x)) (x := ⟨.one, [.bool (scVal want b x)]⟩) hdd (one_sound rfl rfl) (one_al (by simp [Cell.places]))
            have hS2 : Sit ω0 m0 N (a'.put (some d) (.bool (scVal want b x))) w' (putSlot (killSt ks st) d ⟨.one, [.bool (scVal want b x)]⟩) :=
              ⟨hdf, by simpa [Act.put] using hsz, ω, rb, by simpa [Act.put] using hR2, Tr.tmps hT⟩
            exact hrest _ _ w' (hS2.killR kill) hK hQ
          · simp at hmE
        by_cases hbw : b = want
        · -- the block runs
          have hSt : Sit ω0 m0 N a w (putSlot st t ⟨.one, [.bool want]⟩) := by
            obtain ⟨hdf, hsz, ω, rb, hR, hT⟩ := hS
            have htv := tmp_bool (SVR_of_eq hR hb)
            have hlt : t < a.tmps.size := (Array.getElem?_eq_some_iff.1 htv).1
            have := hR.put (d := t) (v := .bool want) (x := ⟨.one, [.bool want]⟩) hlt (one_sound rfl rfl) (one_al (by simp [Cell.places]))
            have e : a.tmps.setIfInBounds t (.bool want) = a.tmps := by
              apply Array.ext_getElem?
              intro i
              by_cases hi : t = i
              · subst hi; rw [htv, hbw]; simp [hlt]
              · rw [Array.getElem?_setIfInBounds_ne hi]
            simp only [e] at this
            exact ⟨hdf, hsz, ω, rb, this, hT⟩
          refine wi_sound blk _ os1 j _ hg1 hm1 hokb _ a w hSt (hrun hbw) fun a' w' st' hS' hend => ?_
          obtain ⟨h1, h2⟩ := hend
          exact pick a' w' (by
            rw [hbw] at hsame
            rw [hsame] at h2
            rw [← h2]; exact hS'.kill ks) fun _ => ⟨st', h1, hS'⟩
        · have htv : a.tmps[t]? = some (.bool b) := by obtain ⟨_, _, ω, rb, hR, _⟩ := hS; exact tmp_bool (SVR_of_eq hR hb)
          exact dead_sound hbw (st0 := killSt ks st) (fun d hd => look_killSt hd) os1 blk.flat j [] _ a w hg1 hm1 hdead (fun d hd => List.all_eq_true.1 hks d hd) htv (by simp) (hS.kill ks)
            fun a' hS' => pick a' w hS' fun e => absurd e hbw
      · exact hW.elim
end
section
variable {P : Program} {ω0 : Nat → Lab} {m0 : Mc} {N : Nat} {xs : List XD} {os : List Out} {C : Nat → St} {X : Nat → Bool} {s : St}
theorem R.congr {ω : Nat → Lab} {m : Mc} {a b : St} (h : R ω m a) (hs : ∀ t, look b.sl t = look a.sl t) (hr : ∀ k, lookR b.rf k = lookR a.rf k) (hg : b.gh = a.gh) : R ω m b :=
  ⟨fun t => by rw [hs]; exact h.sl t, fun i => by rw [hg]; exact h.gh i, fun k cs hk => h.rf k cs (by rw [← hr]; exact hk)⟩
theorem rootCell_congr {a b : St} (hs : ∀ t, look b.sl t = look a.sl t) (hr : ∀ k, lookR b.rf k = lookR a.rf k) (hg : b.gh = a.gh) (r : Root) : rootCell b r = rootCell a r := by
  cases r <;> simp only [rootCell, hs, hr, hg]
theorem Sit.congr {a : Act} {w : World} {x y : St} (h : Sit ω0 m0 N a w x) (hs : ∀ t, look y.sl t = look x.sl t) (hr : ∀ k, lookR y.rf k = lookR x.rf k) (hg : y.gh = x.gh) : Sit ω0 m0 N a w y := by
  obtain ⟨h1, h2, ω, rb, h3, h4⟩ := h
  refine ⟨h1, h2, ω, rb, ⟨h3.r.congr hs hr hg, fun r p hp => ?_⟩, h4⟩
  rw [rootCell_congr hs hr hg] at hp ⊢
  exact h3.al r p hp
theorem mIs_get {ops : Array Oper} : ∀ {l : List Oper} {is : List XI} {i : Nat} {x : XI}, mIs P N ops l is = true → is[i]? = some x → ∃ o, l[i]? = some o ∧ mI P N ops o x = true
  | [], [], i, x, _, h => by simp at h
  | [], _ :: _, _, _, hm, _ => by simp [mIs] at hm
  | _ :: _, [], _, _, hm, _ => by simp [mIs] at hm
  | o :: l, y :: is, i, x, hm, h => by
    simp only [mIs, Bool.and_eq_true] at hm
    cases i with
    | zero => simp at h; subst h; exact ⟨o, rfl, hm.1⟩
    | succ i => simp at h; simpa using mIs_get hm.2 h
theorem mIs_len {ops : Array Oper} : ∀ {l : List Oper} {is : List XI}, mIs P N ops l is = true → l.length = is.length
  | [], [], _ => rfl
  | [], _ :: _, hm => by simp [mIs] at hm
  | _ :: _, [], hm => by simp [mIs] at hm
  | o :: l, y :: is, hm => by
    simp only [mIs, Bool.and_eq_true] at hm
    simp [mIs_len hm.2]
theorem gWant_le {a b : St} (h : a.le b) {g : Option (Nat × Bool)} {q : Bool} (hg : gWant a g = some q) : gWant b g = some q := by
  cases g with
  | none => exact hg
  | some x =>
    obtain ⟨t, w⟩ := x
    simp only [gWant] at hg ⊢
    rcases h.1 t with e | e
    · rw [← e]; exact hg
    · rw [e] at hg; simp at hg
theorem wanted_gWant {ops : Array Oper} {o : Oper} {i : XI} {a : Act} {w : World} {q : Bool} (hS : Sit ω0 m0 N a w s) (hg : mG ops o.guard i.guard = true) (hq : gWant s i.guard = some q) : Region.wanted o (yielded ops a.tmps) = q := by
  obtain ⟨_, _, ω, rb, hR, _⟩ := hS
  cases hgi : i.guard with
  | none => rw [hgi] at hq; simp only [gWant, Option.some.injEq] at hq; subst hq; exact (wanted_of hg).1 hgi
  | some x =>
    obtain ⟨t, w'⟩ := x
    rw [hgi] at hq
    simp only [gWant] at hq
    split at hq
    · rename_i b hs hc
      simp only [Option.some.injEq] at hq; subst hq
      exact (wanted_of hg).2.1 t w' b hgi (tmp_bool (SVR_of_eq hR (by unfold SV.c1; rw [hs, hc])))
    · rename_i hs hc
      simp only [Option.some.injEq] at hq; subst hq
      refine (wanted_of hg).2.2 t w' hgi ?_
      have := hR.r.sl t
      rw [SVR_iff (by rw [hs]; simp), hs] at this
      obtain ⟨⟨arr, harr, hco⟩, _⟩ := this
      have harr' : a.tmps.getD t undef = .tuple arr := harr
      have : arr = #[] := by
        obtain ⟨l⟩ := arr
        cases l with
        | nil => rfl
        | cons v l => simp [compOk] at hco
      rw [harr', this]; rfl
    · simp at hq
theorem exec_sound {ops : Array Oper} {Q : Exit → Act → World → Prop} {K : Act → World → Prop} {a : Act} {w : World} {i : Nat} {x : XD} {oi : Oper} (h : Res P xs os C) (hs : Rep xs os (C 0) X s) (hdr : dropOk xs = true)
    (hx : xs[i]? = some x) (hcl : ∀ j, x.cl.contains j = true → X j = true) (hi : X i = false) (hlast : ∀ j, xs.length ≤ j → X j = false) (hal' : ∀ j y, xs[j]? = some y → ∀ cs, y.i.op = .alloc cs → j + 1 = xs.length) (hop : ops[i]? = some oi) (hm : mI P N ops oi x.i = true) (hS : Sit ω0 m0 N a w s)
    (hK : ∀ a' w' s', Sit ω0 m0 N a' w' s' → Rep xs os (C 0) (fun j => X j || decide (j = i)) s' → K a' w') : wpOp P ops Q i K a w := by
  have hil := (List.getElem?_eq_some_iff.1 hx).1
  obtain ⟨x', o, d, e1, e2, e3, e4, e5, e6⟩ := h i hil
  rw [hx] at e1; injection e1 with e1; subst e1
  have hle := hs.le h hdr hx hcl
  have hfr0 := hs.fresh h hx e3 hi
  have hfr : (look s.sl d).sh = .no := by rw [hfr0]
  simp only [mI, Bool.and_eq_true, decide_eq_true_eq] at hm
  obtain ⟨⟨⟨hdst, hrng⟩, hgd⟩, hmE⟩ := hm
  have hod : oi.dst = some d := by rw [hdst, e3]
  have hd : ∀ t, oi.dst = some t → t < a.tmps.size ∧ t < KEY := fun t ht => by
    rw [ht] at hrng
    simp only [Bool.and_eq_true, decide_eq_true_eq] at hrng
    exact ⟨by rw [hS.2.1]; exact hrng.1, hrng.2⟩
  unfold wpOp
  simp only [hop]
  have hputs : ∀ y, putSlot s d y = ⟨putS s.sl d y, s.rf, s.gh⟩ := fun y => by
    unfold putSlot
    rw [if_neg]
    simp [SV.owns, hfr]
  have run : ∀ (E : Env) (hE : EnvOk P E) (st' : St), step E s oi.dst x.i.op = some st' → (Rep xs os (C 0) (fun j => X j || decide (j = i)) st') → oi.wp P a w K Q := by
    intro E hE st' hst hrep
    obtain ⟨hdf, hsz, ω, rb, hR, hT⟩ := hS
    refine step_sound (m := ⟨a.tmps, m0.G, w, rb⟩) hE hR rfl hmE hd hst _ Q fun a' w' ω' rb' h1 h2 h3 => ?_
    have hS' : Sit ω0 m0 N a' w' st' := ⟨by rw [h1]; exact hdf, h3.T.trans hsz, ω', rb', h2,
      (Tr.tmps hT).trans ⟨h3.os, h3.tape, h3.output, h3.size, h3.fr, rfl, rfl, h3.rb⟩⟩
    exact hK a' w' st' hS' hrep
  cases o with
  | val y =>
    obtain ⟨hk, ⟨E, hE, hv⟩, hg⟩ := e5
    rw [wanted_gWant hS hgd (gWant_le hle hg), if_pos rfl]
    left
    refine run E hE _ (by rw [hod]; exact le_step hle hk hv hfr) ?_
    exact hs.put h hx e2 e3 (by rw [hputs]) (fun t => by rw [hputs]; simp only [look_putS]; rfl) (fun k => by rw [hputs]; rfl)
  | skip =>
    rw [wanted_gWant hS hgd (gWant_le hle e5)]
    simp only [Bool.false_eq_true, if_false]
    rw [hod]
    obtain ⟨hdf, hsz, ω, rb, hR, hT⟩ := hS
    have hp := hR.put (d := d) (v := undef) (x := ⟨.tup [], []⟩) (hd d hod).1 ⟨⟨#[], rfl, trivial⟩, trivial⟩ (fun c p hp => by simp [SV.get, Cell.places] at hp)
    refine hK _ w _ ⟨hdf, by simpa [Act.put] using hsz, ω, rb, by simpa [Act.put] using hp, Tr.tmps hT⟩ ?_
    exact hs.put h hx e2 e3 (by rw [hputs]) (fun t => by rw [hputs]; simp only [look_putS]; rfl) (fun k => by rw [hputs]; rfl)
  | al cs =>
    obtain ⟨ho, hg0, hno, hh1, hh2, hh3, hh4⟩ := e5
    rw [(wanted_of hgd).1 hg0, if_pos rfl]
    left
    have hlast' := hal' i x hx cs ho
    -- every cell there is is one of the last state's
    have hr := h.rep i (by omega)
    have hX : ∀ j, X j = true → j < i := fun j hj => by
      have h1 : j < xs.length := by
        apply Nat.lt_of_not_le; intro hle'; rw [hlast j hle'] at hj; simp at hj
      have h2 : j ≠ i := by intro e; subst e; rw [hi] at hj; simp at hj
      omega
    have hlk : ∀ t, (look s.sl t).filt (hitK d) = look s.sl t := fun t => by
      have hC : (look (C i).sl t).filt (hitK d) = look (C i).sl t := by
        rw [← look_mapS (SV.filt (hitK d)) rfl, hh1]
      by_cases he : ∃ j y, X j = true ∧ xs[j]? = some y ∧ y.i.dst = some t
      · obtain ⟨j, y, hj, hy, hd'⟩ := he
        obtain ⟨y', o', d', f1, f2, f3, _⟩ := h j (by have := hX j hj; omega)
        rw [hy] at f1; injection f1 with f1; subst f1
        rw [hd'] at f3; injection f3 with f3; subst f3
        rw [hr.sl j y o' t (by simpa using hX j hj) hy f2 hd'] at hC
        rw [hs.sl j y o' t hj hy f2 hd']; exact hC
      · have h0 : look s.sl t = look (C 0).sl t := hs.sl0 t fun j y hj hy hd' => he ⟨j, y, hj, hy, hd'⟩
        rw [h0]
        by_cases hk : ∃ j y, j < i ∧ xs[j]? = some y ∧ y.i.dst = some t
        · obtain ⟨j, y, hj, hy, hd'⟩ := hk
          rw [h.fresh0 hy hd']; rfl
        · rw [hr.sl0 t fun j y hj hy hd' => hk ⟨j, y, by simpa using hj, hy, hd'⟩] at hC
          exact hC
    have hlr : ∀ k, (lookR s.rf k).map (fun l => l.map (Cell.filt (hitK d))) = lookR s.rf k := fun k => by
      have hC : (lookR (C i).rf k).map (fun l => l.map (Cell.filt (hitK d))) = lookR (C i).rf k := by
        rw [← lookR_mapR, hh2]
      have n1 : ∀ j y cs', xs[j]? = some y → os[j]? = some (.al cs') → j < i → False := fun j y cs' hy ho' hj => by
        obtain ⟨y', o', d', f1, f2, f3, _, f5, _⟩ := h j (by omega)
        rw [hy] at f1; injection f1 with f1; subst f1
        rw [ho'] at f2; injection f2 with f2; subst f2
        have := hal' j y hy _ f5.1
        omega
      have h0 : lookR s.rf k = lookR (C 0).rf k := hs.rf0 k fun j y cs' hj hy ho' _ => n1 j y cs' hy ho' (hX j hj)
      have h0' : lookR (C i).rf k = lookR (C 0).rf k := hr.rf0 k fun j y cs' hj hy ho' _ => n1 j y cs' hy ho' (by simpa using hj)
      rw [h0, ← h0']; exact hC
    have hst : step noE s oi.dst x.i.op = some (allocSt s d cs) := by rw [hod, ho]; rfl
    refine run noE noE_ok _ hst ?_
    have hsl1 : ∀ t, look (allocSt s d cs).sl t = if d = t then ⟨.one, [.ptr d 0]⟩ else look s.sl t := fun t => by
      have hflt : ∀ t, look (newRef s d cs).sl t = look s.sl t := fun t => by
        show look (mapS s.sl (SV.filt (hitK d))) t = _
        rw [look_mapS (SV.filt (hitK d)) rfl]; exact hlk t
      unfold allocSt putSlot
      rw [if_neg (by rw [hflt]; simp [SV.owns, hfr])]
      simp only [look_putS, hflt]
    refine hs.put h hx e2 e3 ?_ hsl1 fun k => ?_
    · unfold allocSt putSlot
      rw [if_neg (by
        have : look (newRef s d cs).sl d = look s.sl d := by
          show look (mapS s.sl (SV.filt (hitK d))) d = _
          rw [look_mapS (SV.filt (hitK d)) rfl]; exact hlk d
        rw [this]; simp [SV.owns, hfr])]
      show mapS s.gh (SV.filt (hitK d)) = s.gh
      rw [hs.gh, ← hr.gh]; exact hh3
    · unfold allocSt putSlot
      rw [if_neg (by
        have : look (newRef s d cs).sl d = look s.sl d := by
          show look (mapS s.sl (SV.filt (hitK d))) d = _
          rw [look_mapS (SV.filt (hitK d)) rfl]; exact hlk d
        rw [this]; simp [SV.owns, hfr])]
      show lookR (putR (mapR s.rf (fun l => l.map (Cell.filt (hitK d)))) d (cs.map (Cell.filt (hitK d)))) k = lookR (putR s.rf d cs) k
      rw [lookR_putR, lookR_putR, hh4, lookR_mapR, hlr]
end
def opsL : List XD → XL
  | [] => .nil
  | x :: xs => .op x.i (opsL xs)
def clOk (os : List Oper) (all : List XD) : Bool := (List.range os.length).all fun i => match os[i]?, all[i]? with
  | some o, some x => (o.after.toList.all fun e => !Region.binds .any e || decide (e.on < i)) && x.cl.all fun j => o.after.toList.any fun e => Region.binds .any e && (e.on == j || (match all[e.on]? with
    | some y => y.cl.contains j
    | none => false))
  | _, _ => false
def tailOk (all : List XD) (nv : Nat) : Bool := (List.range all.length).all fun k => decide (k < nv) || (match all[k]? with
  | some x => x.i.guard.isNone && (List.range k).all fun j => x.cl.contains j
  | none => false)
def alLast (xs : List XD) : Bool := (List.range xs.length).all fun k => match xs[k]? with
  | some x => (match x.i.op with
    | .alloc _ => k + 1 == xs.length
    | _ => true)
  | none => false
theorem clOk_spec {os : List Oper} {all : List XD} (h : clOk os all = true) {i : Nat} {o : Oper} (ho : os[i]? = some o) : ∃ x, all[i]? = some x ∧ (∀ e ∈ o.after, Region.binds .any e = true → e.on < i) ∧
    ∀ j, x.cl.contains j = true → ∃ e ∈ o.after, Region.binds .any e = true ∧ (e.on = j ∨ ∃ y, all[e.on]? = some y ∧ y.cl.contains j = true) := by
  unfold clOk at h
  rw [List.all_eq_true] at h
  have h1 := h i (by simpa using (List.getElem?_eq_some_iff.1 ho).1)
  rw [ho] at h1
  cases hx : all[i]? with
  | none => rw [hx] at h1; simp at h1
  | some x =>
    rw [hx] at h1
    simp only [Bool.and_eq_true, List.all_eq_true] at h1
    refine ⟨x, rfl, fun e he hb => by have := h1.1 e (Array.mem_toList_iff.2 he); rw [hb] at this; simpa using this, fun j hj => ?_⟩
    have h2 := h1.2 j (by simpa using hj)
    rw [List.any_eq_true] at h2
    obtain ⟨e, he, hb⟩ := h2
    simp only [Bool.and_eq_true, Bool.or_eq_true, beq_iff_eq] at hb
    refine ⟨e, Array.mem_toList_iff.1 he, hb.1, ?_⟩
    rcases hb.2 with h3 | h3
    · exact .inl h3
    · right
      split at h3
      · rename_i y hy; exact ⟨y, hy, h3⟩
      · simp at h3
theorem tailOk_spec {all : List XD} {nv : Nat} (h : tailOk all nv = true) {k : Nat} {x : XD} (hk : nv ≤ k) (hx : all[k]? = some x) : x.i.guard = none ∧ ∀ j, j < k → x.cl.contains j = true := by
  unfold tailOk at h
  rw [List.all_eq_true] at h
  have h1 := h k (by simpa using (List.getElem?_eq_some_iff.1 hx).1)
  rw [hx] at h1
  simp only [Bool.or_eq_true, decide_eq_true_eq, Bool.and_eq_true, List.all_eq_true] at h1
  rcases h1 with h1 | h1
  · omega
  · exact ⟨by simpa using h1.1, fun j hj => h1.2 j (by simpa using hj)⟩
theorem alLast_spec {xs : List XD} (h : alLast xs = true) : ∀ j y, xs[j]? = some y → ∀ cs, y.i.op = .alloc cs → j + 1 = xs.length := by
  intro j y hy cs hcs
  unfold alLast at h
  rw [List.all_eq_true] at h
  have h1 := h j (by simpa using (List.getElem?_eq_some_iff.1 hy).1)
  rw [hy] at h1
  simp only [hcs, beq_iff_eq] at h1
  exact h1
def Closed (all : List XD) (X : Nat → Bool) : Prop := ∀ i x, X i = true → all[i]? = some x → ∀ j, x.cl.contains j = true → X j = true
section
variable {P : Program} {ω0 : Nat → Lab} {m0 : Mc} {N : Nat} {ops : Array Oper} {Q : Exit → Act → World → Prop} {all : List XD}
theorem getD_tf {l : Array Bool} {i : Nat} (hi : i < l.size) : l.getD i true = l.getD i false := by simp [Array.getD, hi]
theorem ready_cl (hcl : clOk ops.toList all = true) {listed : Array Bool} (hc : Closed all fun j => listed.getD j false) {i : Nat} {x : XD} (hr : i ∈ Region.ready .any ops listed) (hx : all[i]? = some x) :
    ∀ j, x.cl.contains j = true → listed.getD j false = true := by
  obtain ⟨h0, o, ho, hall⟩ := mem_ready.1 hr
  obtain ⟨x', hx', _, h2⟩ := clOk_spec hcl (i := i) (o := o) (by simpa using ho)
  rw [hx] at hx'; injection hx' with hx'; subst hx'
  intro j hj
  obtain ⟨e, he, hb, h3⟩ := h2 j hj
  have h4 := hall e he hb
  rcases h3 with rfl | ⟨y, hy, hyj⟩
  · exact h4
  · exact hc e.on y h4 hy j hyj
theorem ready_first (hcl : clOk ops.toList all = true) {listed : Array Bool} {k : Nat} (hk : k < ops.size) (hsz : listed.size = ops.size) (hun : listed.getD k false = false) (hbelow : ∀ j, j < k → listed.getD j false = true) : k ∈ Region.ready .any ops listed := by
  have ho : ops[k]? = some ops[k] := Array.getElem?_eq_getElem hk
  obtain ⟨x, _, h1, _⟩ := clOk_spec hcl (i := k) (o := ops[k]) (by simp)
  exact mem_ready.2 ⟨by rw [getD_tf (by omega)]; exact hun, _, ho, fun e he hb => hbelow _ (h1 e he hb)⟩
theorem getD_set {l : Array Bool} {i j : Nat} (hi : i < l.size) : (l.setIfInBounds i true).getD j false = (l.getD j false || decide (j = i)) := by
  by_cases e : j = i
  · subst e; simp [hi]
  · rw [getD_set_ne false (Ne.symm e)]; simp [e]
theorem tail_sound {K : St → Prop} {nv : Nat} (hm : mIs P N ops ops.toList (all.map (·.i)) = true) (hcl : clOk ops.toList all = true) (htl : tailOk all nv = true) (hQ : ∀ a w st, Sit ω0 m0 N a w st → K st → Q .normal a w) :
    ∀ (fuel k : Nat) (listed : Array Bool) (st : St) (a : Act) (w : World), fuel + k = all.length → nv ≤ k → listed.size = all.length → (∀ j, j < all.length → listed.getD j false = decide (j < k)) → Sit ω0 m0 N a w st → WI P (opsL (all.drop k)) K st →
      wpAny P .any ops Q fuel listed a w := by
  have hsz : ops.size = all.length := by have := mIs_len hm; simpa using this
  intro fuel
  induction fuel with
  | zero =>
    intro k listed st a w hf hk hls hl hS hW
    have hkn : k = all.length := by omega
    subst hkn
    refine ⟨?_, ?_⟩
    · cases hr : Region.ready .any ops listed with
      | nil => rfl
      | cons i l =>
        have hi : i ∈ Region.ready .any ops listed := by rw [hr]; simp
        obtain ⟨h0, o, ho, _⟩ := mem_ready.1 hi
        have hlt : i < all.length := by rw [← hsz]; exact (Array.getElem?_eq_some_iff.1 ho).1
        rw [getD_tf (by omega), hl i hlt] at h0
        simp [hlt] at h0
    · rw [List.drop_length] at hW
      exact hQ a w st hS hW
  | succ fuel ih =>
    intro k listed st a w hf hk hls hl hS hW
    have hkn : k < all.length := by omega
    have hkr : k ∈ Region.ready .any ops listed := ready_first hcl (by omega) (by omega) (by rw [hl k hkn]; simp) fun j hj => by rw [hl j (by omega)]; simpa using hj
    refine ⟨fun h0 => (by rw [h0] at hkr; cases hkr), fun i hi => ?_⟩
    obtain ⟨h0, o, ho, _⟩ := mem_ready.1 hi
    have hlt : i < all.length := by rw [← hsz]; exact (Array.getElem?_eq_some_iff.1 ho).1
    have hik : k ≤ i := by
      rw [getD_tf (by omega), hl i hlt] at h0
      simpa using h0
    have hxi : all[i]? = some all[i] := List.getElem?_eq_getElem hlt
    have hc : Closed all fun j => listed.getD j false := fun j y hj hy j' hj' => by
      obtain ⟨y', hy', h1, h2⟩ := clOk_spec hcl (i := j) (o := ops[j]'(by have := (List.getElem?_eq_some_iff.1 hy).1; omega)) (by simp)
      rw [hy] at hy'; injection hy' with hy'; subst hy'
      have hjl := (List.getElem?_eq_some_iff.1 hy).1
      simp only [hl j hjl, decide_eq_true_eq] at hj
      have hj'' : j' < j := by
        clear hW hS
        induction j using Nat.strongRecOn generalizing y with
        | _ j ihj =>
          obtain ⟨e, he, hb, h3⟩ := h2 j' hj'
          have := h1 e he hb
          rcases h3 with rfl | ⟨z, hz, hzj⟩
          · exact this
          · have hel := (List.getElem?_eq_some_iff.1 hz).1
            obtain ⟨z', hz', g1, g2⟩ := clOk_spec hcl (i := e.on) (o := ops[e.on]'(by omega)) (by simp)
            rw [hz] at hz'; injection hz' with hz'; subst hz'
            have := ihj e.on (by omega) z hz hzj g1 g2 (List.getElem?_eq_some_iff.1 hz).1 (by omega)
            omega
      show listed.getD j' false = true
      rw [hl j' (by omega)]; simp only [decide_eq_true_eq]; omega
    have hcli := ready_cl hcl hc hi hxi
    have hii : i = k := by
      apply Nat.le_antisymm _ hik
      apply Nat.le_of_not_lt
      intro hlt'
      have := hcli k ((tailOk_spec htl (by omega) hxi).2 k hlt')
      rw [hl k hkn] at this
      simp at this
    subst hii
    have hxk : all.drop i = all[i] :: all.drop (i + 1) := List.drop_eq_getElem_cons hlt
    rw [hxk] at hW
    simp only [opsL, WI] at hW
    have hg := (tailOk_spec htl hk hxi).1
    rw [hg] at hW
    simp only at hW
    obtain ⟨o', ho', hmI⟩ := mIs_get (i := i) (x := all[i].i) hm (by rw [List.getElem?_map, hxi]; rfl)
    have : o' = o := by
      have : ops[i]? = some o' := by simpa using ho'
      rw [ho] at this; injection this with this; exact this.symm
    subst this
    unfold wpOp
    simp only [ho]
    simp only [mI, Bool.and_eq_true, decide_eq_true_eq] at hmI
    obtain ⟨⟨⟨hdst, hrng⟩, hgd⟩, hmE⟩ := hmI
    rw [(wanted_of hgd).1 hg, if_pos rfl]
    left
    have hd : ∀ t, o'.dst = some t → t < a.tmps.size ∧ t < KEY := fun t ht => by
      rw [ht] at hrng
      simp only [Bool.and_eq_true, decide_eq_true_eq] at hrng
      exact ⟨by rw [hS.2.1]; exact hrng.1, hrng.2⟩
    obtain ⟨hdf, hsz', ω, rb, hR, hT⟩ := hS
    unfold goK at hW
    rw [← hdst] at hW
    refine goW_sound (m := ⟨a.tmps, m0.G, w, rb⟩) hR rfl hmE hd hW _ Q fun st' a' w' ω' rb' hk' h1 h2 h3 => ?_
    have hS' : Sit ω0 m0 N a' w' st' := ⟨by rw [h1]; exact hdf, h3.T.trans hsz', ω', rb', h2,
      (Tr.tmps hT).trans ⟨h3.os, h3.tape, h3.output, h3.size, h3.fr, rfl, rfl, h3.rb⟩⟩
    refine ih (i + 1) _ _ a' w' (by omega) (by omega) (by simpa using hls) (fun j hj => ?_) (hS'.killR _) hk'
    rw [getD_set (by omega), hl j hj]
    by_cases e : j = i
    · subst e; simp
    · simp only [e, decide_false, Bool.or_false]
      congr 1
      exact propext ⟨fun h => by omega, fun h => by omega⟩
theorem countP_set {X : Nat → Bool} {i : Nat} (hi : X i = false) : ∀ n, (List.range n).countP (fun j => X j || decide (j = i)) = (List.range n).countP X + (if i < n then 1 else 0)
  | 0 => by simp
  | n + 1 => by
    rw [List.range_succ, List.countP_append, List.countP_append, countP_set hi n]
    simp only [List.countP_cons, List.countP_nil, Nat.zero_add]
    by_cases e : n = i
    · subst e; simp [hi]
    · have : (i < n + 1) = (i < n) := propext ⟨fun h => by omega, fun h => by omega⟩
      simp only [this, e, decide_false, Bool.or_false]
      omega
theorem countP_lt {X : Nat → Bool} {i : Nat} (hi : X i = false) {n : Nat} (hn : i < n) : (List.range n).countP X < n := by
  have := countP_set hi n
  rw [if_pos hn] at this
  have h2 := List.countP_le_length (p := fun j => X j || decide (j = i)) (l := List.range n)
  rw [List.length_range] at h2
  omega
theorem any_sound {K : St → Prop} {xs ts : List XD} {os : List Out} {C : Nat → St} (hall : all = xs ++ ts) (hm : mIs P N ops ops.toList (all.map (·.i)) = true) (hcl : clOk ops.toList all = true) (htl : tailOk all xs.length = true) (hdr : dropOk xs = true) (hal : alLast xs = true)
    (h : Res P xs os C) (hW : WI P (opsL ts) K (C xs.length)) (hQ : ∀ a w st, Sit ω0 m0 N a w st → K st → Q .normal a w) :
    ∀ (fuel : Nat) (listed : Array Bool) (s : St) (a : Act) (w : World), fuel + (List.range all.length).countP (fun j => listed.getD j false) = all.length → listed.size = all.length → Closed all (fun j => listed.getD j false) →
      (∀ j, xs.length ≤ j → listed.getD j false = false) → Sit ω0 m0 N a w s → Rep xs os (C 0) (fun j => listed.getD j false) s → wpAny P .any ops Q fuel listed a w := by
  have hsz : ops.size = all.length := by have := mIs_len hm; simpa using this
  have hxl : xs.length ≤ all.length := by rw [hall]; simp
  intro fuel
  induction fuel with
  | zero =>
    intro listed s a w hf hls hc hlast hS hR
    by_cases hv : ∀ i, i < xs.length → listed.getD i false = true
    · -- nothing is left: the tail is empty
      have hk : xs.length = all.length := by
        apply Nat.le_antisymm hxl
        apply Nat.le_of_not_lt
        intro hlt
        have := countP_lt (X := fun j => listed.getD j false) (hlast xs.length (Nat.le_refl _)) hlt
        omega
      have hrep := h.rep xs.length (Nat.le_refl _)
      have hS' : Sit ω0 m0 N a w (C xs.length) := by
        refine hS.congr (fun t => ?_) (fun k => ?_) (by rw [hrep.gh, hR.gh])
        · by_cases he : ∃ (j : Nat) (y : XD), xs[j]? = some y ∧ y.i.dst = some t
          · obtain ⟨j, y, hy, hd⟩ := he
            have hj := (List.getElem?_eq_some_iff.1 hy).1
            obtain ⟨y', o', d', e1, e2, e3, _⟩ := h j hj
            rw [hy] at e1; injection e1 with e1; subst e1
            rw [hd] at e3; injection e3 with e3; subst e3
            rw [hrep.sl j y o' t (by simpa using hj) hy e2 hd, hR.sl j y o' t (hv j hj) hy e2 hd]
          · rw [hrep.sl0 t fun j y _ hy hd => he ⟨j, y, hy, hd⟩, hR.sl0 t fun j y _ hy hd => he ⟨j, y, hy, hd⟩]
        · by_cases he : ∃ (j : Nat) (y : XD) (cs : List Cell), xs[j]? = some y ∧ os[j]? = some (.al cs) ∧ y.i.dst = some k
          · obtain ⟨j, y, cs, hy, ho, hd⟩ := he
            have hj := (List.getElem?_eq_some_iff.1 hy).1
            rw [hrep.rf j y cs k (by simpa using hj) hy ho hd, hR.rf j y cs k (hv j hj) hy ho hd]
          · rw [hrep.rf0 k fun j y cs _ hy ho hd => he ⟨j, y, cs, hy, ho, hd⟩, hR.rf0 k fun j y cs _ hy ho hd => he ⟨j, y, cs, hy, ho, hd⟩]
      refine tail_sound hm hcl htl hQ 0 xs.length listed _ a w (by omega) (Nat.le_refl _) hls (fun j hj => ?_) hS' ?_
      · rw [hv j (by omega)]; simp; omega
      · rw [hall, List.drop_left]; exact hW
    · exfalso
      have : ∃ i, i < xs.length ∧ listed.getD i false = false := by
        apply Classical.byContradiction
        intro hno
        apply hv
        intro i hi
        cases hb : listed.getD i false with
        | true => rfl
        | false => exact absurd ⟨i, hi, hb⟩ hno
      obtain ⟨i, hi, hb⟩ := this
      have := countP_lt (X := fun j => listed.getD j false) hb (n := all.length) (by omega)
      omega
  | succ fuel ih =>
    intro listed s a w hf hls hc hlast hS hR
    by_cases hv : ∀ i, i < xs.length → listed.getD i false = true
    · have hrep := h.rep xs.length (Nat.le_refl _)
      have hS' : Sit ω0 m0 N a w (C xs.length) := by
        refine hS.congr (fun t => ?_) (fun k => ?_) (by rw [hrep.gh, hR.gh])
        · by_cases he : ∃ (j : Nat) (y : XD), xs[j]? = some y ∧ y.i.dst = some t
          · obtain ⟨j, y, hy, hd⟩ := he
            have hj := (List.getElem?_eq_some_iff.1 hy).1
            obtain ⟨y', o', d', e1, e2, e3, _⟩ := h j hj
            rw [hy] at e1; injection e1 with e1; subst e1
            rw [hd] at e3; injection e3 with e3; subst e3
            rw [hrep.sl j y o' t (by simpa using hj) hy e2 hd, hR.sl j y o' t (hv j hj) hy e2 hd]
          · rw [hrep.sl0 t fun j y _ hy hd => he ⟨j, y, hy, hd⟩, hR.sl0 t fun j y _ hy hd => he ⟨j, y, hy, hd⟩]
        · by_cases he : ∃ (j : Nat) (y : XD) (cs : List Cell), xs[j]? = some y ∧ os[j]? = some (.al cs) ∧ y.i.dst = some k
          · obtain ⟨j, y, cs, hy, ho, hd⟩ := he
            have hj := (List.getElem?_eq_some_iff.1 hy).1
            rw [hrep.rf j y cs k (by simpa using hj) hy ho hd, hR.rf j y cs k (hv j hj) hy ho hd]
          · rw [hrep.rf0 k fun j y cs _ hy ho hd => he ⟨j, y, cs, hy, ho, hd⟩, hR.rf0 k fun j y cs _ hy ho hd => he ⟨j, y, cs, hy, ho, hd⟩]
      have hl : ∀ j, j < all.length → listed.getD j false = decide (j < xs.length) := fun j hj => by
        by_cases hjx : j < xs.length
        · rw [hv j hjx]; simp [hjx]
        · rw [hlast j (by omega)]; simp [hjx]
      have hcount : (List.range all.length).countP (fun j => listed.getD j false) = xs.length := by
        have e : (List.range all.length).countP (fun j => listed.getD j false) = (List.range all.length).countP (fun j => decide (j < xs.length)) :=
          List.countP_congr fun j hj => by rw [hl j (by simpa using hj)]
        rw [e]
        have : ∀ n m, m ≤ n → (List.range n).countP (fun j => decide (j < m)) = m := by
          intro n
          induction n with
          | zero => intro m hm; simp; omega
          | succ n ihn =>
            intro m hm
            rw [List.range_succ, List.countP_append]
            simp only [List.countP_cons, List.countP_nil, Nat.zero_add]
            by_cases e : m = n + 1
            · subst e
              have e2 : (List.range n).countP (fun j => decide (j < n + 1)) = (List.range n).countP (fun j => decide (j < n)) :=
                List.countP_congr fun j hj => by have : j < n := by simpa using hj
                                                 simp [this]; omega
              rw [e2, ihn n (Nat.le_refl _)]; simp
            · rw [ihn m (by omega)]
              have : ¬ n < m := by omega
              simp [this]
        exact this _ _ hxl
      exact tail_sound hm hcl htl hQ (fuel + 1) xs.length listed _ a w (by omega) (Nat.le_refl _) hls hl hS' (by rw [hall, List.drop_left]; exact hW)
    · have hex : ∃ i, i < xs.length ∧ listed.getD i false = false ∧ ∀ j, j < i → listed.getD j false = true := by
        apply Classical.byContradiction
        intro hno
        apply hv
        intro i
        induction i using Nat.strongRecOn with
        | _ i ihi =>
          intro hi
          cases hb : listed.getD i false with
          | true => rfl
          | false => exact absurd ⟨i, hi, hb, fun j hj => ihi j hj (by omega)⟩ hno
      obtain ⟨i0, hi0, hb0, hbel⟩ := hex
      have hr0 : i0 ∈ Region.ready .any ops listed := ready_first hcl (by omega) (by omega) hb0 hbel
      refine ⟨fun h0 => (by rw [h0] at hr0; cases hr0), fun i hi => ?_⟩
      obtain ⟨h0, oi, hoi, _⟩ := mem_ready.1 hi
      have hlt : i < all.length := by rw [← hsz]; exact (Array.getElem?_eq_some_iff.1 hoi).1
      have hun : listed.getD i false = false := by rw [← getD_tf (by omega)]; exact h0
      have hxi : all[i]? = some all[i] := List.getElem?_eq_getElem hlt
      have hcli := ready_cl hcl hc hi hxi
      have hiv : i < xs.length := by
        apply Nat.lt_of_not_le
        intro hle
        have := hcli i0 ((tailOk_spec htl hle hxi).2 i0 (by omega))
        rw [hb0] at this; simp at this
      have hxx : xs[i]? = some all[i] := by rw [← hxi, hall, List.getElem?_append_left hiv]
      obtain ⟨o', ho', hmI⟩ := mIs_get (i := i) (x := all[i].i) hm (by rw [List.getElem?_map, hxi]; rfl)
      have : o' = oi := by
        have : ops[i]? = some o' := by simpa using ho'
        rw [hoi] at this; injection this with this; exact this.symm
      subst this
      refine exec_sound h hR hdr hxx hcli hun hlast (alLast_spec hal) hoi hmI hS fun a' w' s' hS' hR' => ?_
      have hX : (fun j => (listed.setIfInBounds i true).getD j false) = fun j => listed.getD j false || decide (j = i) := funext fun j => getD_set (by omega)
      refine ih _ s' a' w' ?_ (by simpa using hls) ?_ (fun j hj => ?_) hS' (by rw [hX]; exact hR')
      · rw [hX]
        have := countP_set (X := fun j => listed.getD j false) hun all.length
        rw [this, if_pos hlt]; omega
      · rw [hX]
        intro j y hj hy j' hj'
        simp only [Bool.or_eq_true, decide_eq_true_eq] at hj ⊢
        rcases hj with hj | rfl
        · exact .inl (hc j y hj hy j' hj')
        · rw [hxi] at hy; injection hy with hy; subst hy
          exact .inl (hcli j' hj')
      · rw [getD_set (by omega), hlast j hj]
        have : j ≠ i := by omega
        simp [this]
end
inductive XCode where
  | skip
  | ret
  | exit (id : Nat)
  | ops (k : List Nat) (l : XL)
  | seq (a b : XCode)
  | cond (x : XO) (a b : XCode)
  | block (id : Nat) (a : XCode)
  | loop (a : XCode)
  | any (vs ts : List XD)
  | keep (sl rf : List Nat) (a : XCode)
inductive XExit where
  | normal
  | exit (id : Nat)
  | ret
def thenK (f : St → Prop) (K : XExit → St → Prop) : XExit → St → Prop
  | .normal, st => f st
  | .exit id, st => K (.exit id) st
  | .ret, st => K .ret st
def blkK (id : Nat) (K : XExit → St → Prop) : XExit → St → Prop
  | .normal, st => K .normal st
  | .exit id', st => if id' = id then K .normal st else K (.exit id') st
  | .ret, st => K .ret st
def loopK (J : St → Prop) (K : XExit → St → Prop) : XExit → St → Prop
  | .normal, st => J st
  | .exit id, st => K (.exit id) st
  | .ret, st => K .ret st
def condK (A B : St → Prop) (st : St) : Bool → Prop
  | true => A st
  | false => B st
def LoopW (w : (XExit → St → Prop) → St → Prop) (K : XExit → St → Prop) (st : St) : Prop :=
  ∃ (I : Nat → St → Prop), (∃ n, I n st) ∧ ∀ n s, I n s → w (loopK (fun s' => ∃ n', n' < n ∧ I n' s') K) s
def W (P : Program) : XCode → (XExit → St → Prop) → St → Prop
  | .skip, K, st => K .normal st
  | .ret, K, st => K .ret st
  | .exit id, K, st => K (.exit id) st
  | .ops k l, K, st => WI P l (killK k (K .normal)) st
  | .seq a b, K, st => W P a (thenK (W P b K) K) st
  | .cond x a b, K, st => match (evX st x).c1 with
    | .bool t => Br t (condK (W P a K) (W P b K) st)
    | _ => False
  | .block id a, K, st => W P a (blkK id K) st
  | .loop a, K, st => LoopW (W P a) K st
  | .any vs ts, K, st => DV P vs (WI P (opsL ts) (K .normal)) st
  | .keep sl rf a, K, st => W P a K (forget (fun s => sl.contains s) (fun k => KEY ≤ k || rf.contains k) st)
def mCode (P : Program) (N : Nat) : Code → XCode → Bool
  | c, .keep _ _ x => mCode P N c x
  | .skip, .skip => true
  | .ret, .ret => true
  | .exit id, .exit id' => id == id'
  | .region _ ops false, .ops _ l => mIs P N ops ops.toList l.flat && scOk l
  | .region _ ops true, .any vs ts => P.follows .mixedOrders && mIs P N ops ops.toList ((vs ++ ts).map (·.i)) && clOk ops.toList (vs ++ ts) && tailOk (vs ++ ts) vs.length && dropOk vs && alLast vs
  | .seq a b, .seq x y => mCode P N a x && mCode P N b y
  | .cond c a b, .cond x y z => mO c x && mCode P N a y && mCode P N b z
  | .block id a, .block id' x => id == id' && mCode P N a x
  | .loop a, .loop x => mCode P N a x
  | _, _ => false
def XExit.to : XExit → Exit
  | .normal => .normal
  | .exit id => .exit id
  | .ret => .ret
def Post (ω0 : Nat → Lab) (m0 : Mc) (N : Nat) (K : XExit → St → Prop) (e : Exit) (a : Act) (w : World) : Prop :=
  ∃ x st, e = x.to ∧ Sit ω0 m0 N a w st ∧ K x st
section
variable {P : Program} {ω0 : Nat → Lab} {m0 : Mc} {N : Nat}
theorem w_sound : ∀ (x : XCode) (c : Code), mCode P N c x = true → ∀ (K : XExit → St → Prop) (st : St) (a : Act) (w : World), Sit ω0 m0 N a w st → W P x K st → c.wp P (Post ω0 m0 N K) a w
  | .keep sl rf x, c, hm, K, st, a, w, hS, hW => by
    refine w_sound x c (by cases c <;> simpa [mCode] using hm) K _ a w ?_ hW
    obtain ⟨h1, h2, ω, rb, h3, h4⟩ := hS
    exact ⟨h1, h2, ω, rb, h3.forget, h4⟩
  | .skip, c, hm, K, st, a, w, hS, hW => by
    cases c <;> simp [mCode] at hm
    exact wp_skip ⟨.normal, st, rfl, hS, hW⟩
  | .ret, c, hm, K, st, a, w, hS, hW => by
    cases c <;> simp [mCode] at hm
    exact wp_ret ⟨.ret, st, rfl, hS, hW⟩
  | .exit id, c, hm, K, st, a, w, hS, hW => by
    cases c <;> simp [mCode] at hm
    subst hm
    exact wp_exit ⟨.exit _, st, rfl, hS, hW⟩
  | .ops k l, c, hm, K, st, a, w, hS, hW => by
    cases c <;> try (simp [mCode] at hm; done)
    rename_i id ops draw
    cases draw with
    | true => simp [mCode] at hm
    | false =>
      simp only [mCode, Bool.and_eq_true] at hm
      refine wp_region ?_
      have := wi_sound (Q := Post ω0 m0 N K) l (killK k (K .normal)) ops.toList 0 [] (fun i _ => by simp) hm.1 hm.2 st a w hS hW (fun a w st h1 h2 => ⟨.normal, killR k st, rfl, h1.killR k, h2⟩)
      simpa [List.range_eq_range'] using this
  | .any vs ts, c, hm, K, st, a, w, hS, hW => by
    cases c <;> try (simp [mCode] at hm; done)
    rename_i id ops draw
    cases draw with
    | false => simp [mCode] at hm
    | true =>
      simp only [mCode, Bool.and_eq_true] at hm
      obtain ⟨⟨⟨⟨⟨h1, h2⟩, h3⟩, h4⟩, h5⟩, h6⟩ := hm
      obtain ⟨os, C, _, hC0, hres, hfin⟩ := DV_res vs _ st hW
      subst hC0
      refine wp_region_any h1 ?_
      have hsz : ops.size = (vs ++ ts).length := by have := mIs_len h2; simpa using this
      have hx0 : ∀ j, (Array.replicate ops.size false).getD j false = false := fun j => by
        simp only [Array.getD]; split <;> simp
      refine any_sound (all := vs ++ ts) (Q := Post ω0 m0 N K) rfl h2 h3 h4 h5 h6 hres hfin (fun a w st h1 h2 => ⟨.normal, st, rfl, h1, h2⟩) ops.size _ (C 0) a _ ?_ (by simp [hsz]) ?_ (fun j _ => hx0 j) ?_ ?_
      · have e : (fun j => (Array.replicate ops.size false).getD j false) = fun _ => false := funext hx0
        rw [e]
        have : ∀ n, (List.range n).countP (fun _ => false) = 0 := fun n => by simp
        rw [this, ← hsz]; omega
      · have e : (fun j => (Array.replicate ops.size false).getD j false) = fun _ => false := funext hx0
        rw [e]
        intro i x hi; cases hi
      · obtain ⟨g1, g2, ω, rb, g3, g4⟩ := hS
        refine ⟨g1, g2, ω, rb, ?_, ⟨g4.os, g4.tape, g4.output, g4.size, g4.fr, rfl, rfl, g4.rb⟩⟩
        exact RR.ext (m := ⟨a.tmps, m0.G, w, rb⟩) (w' := { w with drawn := w.drawn + 1 }) g3 fun b x hx => ⟨hx, rfl⟩
      · have e : (fun j => (Array.replicate ops.size false).getD j false) = fun _ => false := funext hx0
        rw [e]
        exact ⟨rfl, fun i x o d hi => (by cases hi), fun _ _ => rfl, fun i x cs d hi => (by cases hi), fun _ _ => rfl⟩
  | .seq x y, c, hm, K, st, a, w, hS, hW => by
    cases c <;> try (simp [mCode] at hm; done)
    rename_i c d
    simp only [mCode, Bool.and_eq_true] at hm
    refine wp_seq (wp_mono (w_sound x c hm.1 _ st a w hS hW) ?_)
    rintro e a' w' ⟨xe, st', rfl, h1, h2⟩
    cases xe with
    | normal => exact w_sound y d hm.2 K st' a' w' h1 h2
    | exit id => exact ⟨.exit id, st', rfl, h1, h2⟩
    | ret => exact ⟨.ret, st', rfl, h1, h2⟩
  | .cond z x y, c, hm, K, st, a, w, hS, hW => by
    cases c <;> try (simp [mCode] at hm; done)
    rename_i o c d
    simp only [mCode, Bool.and_eq_true] at hm
    obtain ⟨⟨h1, h2⟩, h3⟩ := hm
    simp only [W] at hW
    split at hW
    · rename_i t ht
      have hv : a.eval o = .bool t := by
        obtain ⟨_, _, ω, rb, hR, _⟩ := hS
        exact (c1_of (m := ⟨a.tmps, m0.G, w, rb⟩) hR rfl h1 ht (by simp) (fun _ => .res 0)).1
      refine wp_cond hv ?_
      cases t with
      | true => exact w_sound x c h2 K st a w hS hW
      | false => exact w_sound y d h3 K st a w hS hW
    · exact hW.elim
  | .block id x, c, hm, K, st, a, w, hS, hW => by
    cases c <;> try (simp [mCode] at hm; done)
    rename_i id' c
    simp only [mCode, Bool.and_eq_true, beq_iff_eq] at hm
    obtain ⟨rfl, hm⟩ := hm
    refine wp_block (wp_mono (w_sound x c hm _ st a w hS hW) ?_)
    rintro e a' w' ⟨xe, st', rfl, h1, h2⟩
    cases xe with
    | normal => exact ⟨.normal, st', rfl, h1, h2⟩
    | exit id =>
      simp only [XExit.to, Exit.inBlock]
      simp only [blkK] at h2
      split
      · rename_i e; rw [if_pos e] at h2; exact ⟨.normal, st', rfl, h1, h2⟩
      · rename_i e; rw [if_neg e] at h2; exact ⟨.exit id, st', rfl, h1, h2⟩
    | ret => exact ⟨.ret, st', rfl, h1, h2⟩
  | .loop x, c, hm, K, st, a, w, hS, hW => by
    cases c <;> try (simp [mCode] at hm; done)
    rename_i c
    simp only [mCode] at hm
    obtain ⟨I, ⟨n0, h0⟩, hr⟩ := hW
    have key : ∀ n (st : St), I n st → ∀ a w, Sit ω0 m0 N a w st → ∀ (b : Frame) (k : List Item) (cs : List Frame),
        ∃ e a' w', Post ω0 m0 N K e a' w' ∧ Arrives P (lone (b.at a (.code c :: .inLoop c :: k)) cs w) b k cs e a' w' := by
      intro n
      induction n using Nat.strongRecOn with
      | _ n ih =>
        intro st hI a w hS b k cs
        obtain ⟨e, a₁, w₁, hq, harr⟩ := w_sound x c hm _ st a w hS (hr n st hI) b (.inLoop c :: k) cs
        obtain ⟨xe, st', rfl, h1, h2⟩ := hq
        cases xe with
        | normal =>
          obtain ⟨n', hlt, hI₁⟩ := h2
          obtain ⟨e₂, a₂, w₂, hq₂, harr₂⟩ := ih n' hlt st' hI₁ a₁ w₁ h1 b k cs
          exact ⟨e₂, a₂, w₂, hq₂, .of_steps (Steps.trans harr (.one step_inLoop)) harr₂⟩
        | exit id => exact ⟨_, a₁, w₁, ⟨.exit id, st', rfl, h1, h2⟩, .pass (x := .inLoop c) rfl (fun _ _ => .inl (by simp [XExit.to])) harr⟩
        | ret => exact ⟨_, a₁, w₁, ⟨.ret, st', rfl, h1, h2⟩, .pass (x := .inLoop c) rfl (fun _ _ => .inl (by simp [XExit.to])) harr⟩
    intro b k cs
    obtain ⟨e, a', w', hq, harr⟩ := key n0 st h0 a w hS b k cs
    exact ⟨e, a', w', hq, .of_steps (.one step_loop) harr⟩
end
def paramSlots : Nat → List SV → Slots
  | _, [] => []
  | j, x :: xs => putS (paramSlots (j + 1) xs) j (x.copy (.gho j))
def resCell : Cell → Cell
  | .int k n => .int k n
  | .bool b => .bool b
  | .str s => .str s
  | .own sz rows => .own sz rows
  | .ro sz rows => .ro sz rows
  | _ => .undef
def alRoots (r : Nat → Root) : Nat → List Cell → List Root
  | _, [] => []
  | j, c :: cs => (match c with
    | .al _ => [r j]
    | _ => []) ++ alRoots r (j + 1) cs
inductive RS where
  | tmp (t : Nat)
  | cell (t n : Nat) (ag : Bool)
inductive RB where
  | s (t : Nat)
  | r (k : Nat)
  deriving DecidableEq
def RB.fam : RB → Nat → Root
  | .s t => .slot t
  | .r k => .ref k
def RS.item (st : St) : RS → Option (RB × Bool × List Cell)
  | .tmp t => match (look st.sl t).sh with
    | .one => some (.s t, false, (look st.sl t).cs)
    | .agg => some (.s t, true, (look st.sl t).cs)
    | _ => none
  | .cell t n ag => match (look st.sl t).c1 with
    | .ptr k o => match lookR st.rf k with
      | some cs => if o = 0 ∧ cs.length = n then (if ag then some (.r k, true, cs) else match cs with
        | [c] => if c.plain then some (.r k, false, [c]) else none
        | _ => none) else none
      | none => none
    | _ => none
def gather (st : St) : List RS → Option (List (RB × Bool × List Cell))
  | [] => some []
  | r :: rs => match r.item st, gather st rs with
    | some x, some l => some (x :: l)
    | _, _ => none
def resRoots : List (RB × Bool × List Cell) → List Root
  | [] => []
  | (b, _, cs) :: l => alRoots b.fam 0 cs ++ resRoots l
def itemsNodup : List (RB × Bool × List Cell) → Bool
  | [] => true
  | (b, _, _) :: l => (l.all fun x => !decide (x.1 = b)) && itemsNodup l
def itemsLocal : List (RB × Bool × List Cell) → Bool
  | [] => true
  | (b, _, _) :: l => (match b with
    | .s _ => true
    | .r k => decide (k < KEY)) && itemsLocal l
def itemCells : List (RB × Bool × List Cell) → List Cell
  | [] => []
  | (_, _, cs) :: l => cs.map resCell ++ itemCells l
def itemComps : List (RB × Bool × List Cell) → List (Bool × Nat)
  | [] => []
  | (_, ag, cs) :: l => (ag, cs.length) :: itemComps l
def resSh : List (Bool × Nat) → Sh
  | [(false, _)] => .one
  | [(true, _)] => .agg
  | l => .tup l
def hitKeys (c : Cell) : Bool := c.keys.any fun k => decide (k < KEY)
def finish (st : St) (rs : List RS) : Option (SV × Slots × Refs) :=
  match gather st rs with
  | some l0 => match ownAll st (resRoots l0) with
    | some st1 => match gather st1 rs with
      | some l => if itemsNodup l && itemsLocal l then some (⟨resSh (itemComps l), itemCells l⟩, ((forget (fun _ => false) (fun k => decide (KEY ≤ k)) st1).filt hitKeys).gh, ((forget (fun _ => false) (fun k => decide (KEY ≤ k)) st1).filt hitKeys).rf) else none
      | none => none
    | none => none
  | none => none
def finK (rs : List RS) (Q : SV × Slots × Refs → Prop) : XExit → St → Prop
  | .normal, st => Opt (finish st rs) Q
  | .ret, st => Opt (finish st rs) Q
  | .exit _, _ => False
def Fin (res : SV) (args' : List SV) (rf' : Refs) (r : SV × Slots × Refs) : Prop := r = (res, argSlots 0 args', rf')
def resOff : List (RB × Bool × List Cell) → Nat → RB → Option Nat
  | [], _, _ => none
  | (b, _, cs) :: l, j, b' => if b = b' then some j else resOff l (j + cs.length) b'
def resLab (l : List (RB × Bool × List Cell)) : Lab → Lab
  | .at r q => match r with
    | .slot t c => match resOff l 0 (.s t) with
      | some j => .at (.res (j + c)) q
      | none => .junk
    | .ref k c => match resOff l 0 (.r k) with
      | some j => .at (.res (j + c)) q
      | none => .at (.ref k c) q
    | r => .at r q
  | l => l
theorem resOff_local : ∀ {l : List (RB × Bool × List Cell)} {j k x : Nat}, itemsLocal l = true → resOff l j (.r k) = some x → k < KEY
  | [], _, _, _, _, h => by simp [resOff] at h
  | (b, _, cs) :: l, j, k, x, hl, h => by
    simp only [itemsLocal, Bool.and_eq_true] at hl
    simp only [resOff] at h
    split at h
    · rename_i e; subst e; simpa using hl.1
    · exact resOff_local hl.2 h
theorem resLab_at {l : List (RB × Bool × List Cell)} {b : RB} {j c : Nat} {q : Path} (h : resOff l 0 b = some j) : resLab l (.at (b.fam c) q) = .at (.res (j + c)) q := by
  cases b <;> simp [RB.fam, resLab, h]
theorem look_paramSlots : ∀ (xs : List SV) (j i : Nat), look (paramSlots j xs) i = if j ≤ i then ((xs[i - j]?).getD .undef).copy (.gho i) else .undef
  | [], j, i => by simp [paramSlots, look]; intro _; rfl
  | x :: xs, j, i => by
    simp only [paramSlots, look_putS, look_paramSlots xs (j + 1) i]
    by_cases h : j = i
    · subst h; simp
    · by_cases h2 : j ≤ i
      · rw [if_neg h, if_pos (by omega), if_pos h2, show i - j = (i - (j + 1)) + 1 by omega]; simp
      · rw [if_neg h, if_neg (by omega), if_neg h2]
section
variable {P : Program} {E : Env} {ω : Nat → Lab} {m : Mc} {st : St}
theorem begin_sound {args : List SV} {rf : Refs} {T : Array Value} (hT : ∀ i, i < args.length → T.getD i undef = m.G.getD i undef) (h : RR ω m ⟨[], rf, argSlots 0 args⟩) :
    RR ω { m with T := T } ⟨paramSlots 0 args, rf, argSlots 0 args⟩ := by
  have hmain : ∀ (i : Nat), SVR ω { m with T := T } (.slot i) (T.getD i undef) (look (paramSlots 0 args) i) := by
    intro i
    have hg := h.r.gh i
    simp only [look_argSlots, look_paramSlots, Nat.zero_le, if_true, Nat.sub_zero] at hg ⊢
    cases hx : args[i]? with
    | none => exact SVR_no rfl
    | some x =>
      rw [hx] at hg
      simp only [Option.getD_some] at hg ⊢
      rw [hT i (List.getElem?_eq_some_iff.1 hx).1]
      have : SVR ω m (.slot i) (m.G.getD i undef) (x.copy (.gho i)) := SVR_copy (fun j u hu => hu) hg
      by_cases hs : x.sh = .no
      · exact SVR_no hs
      · have hs' : (x.copy (.gho i)).sh ≠ .no := hs
        rw [SVR_iff hs', CRs_iff] at this ⊢
        refine ⟨this.1, this.2.1, fun k v c hv hc => ?_⟩
        have h1 := this.2.2 k v c hv hc
        have hno : c.isOwn = false := by
          simp only [SV.copy, copyCs_get, Option.map_eq_some_iff] at hc
          obtain ⟨c0, _, rfl⟩ := hc
          exact Cell.copy_own _ _
        refine h1.keep (Stay.refl _ _ _) (fun e => by rw [hno] at e; simp at e) (fun _ _ => rfl) (fun p hp => ⟨fun v0 h0 => ?_, fun q _ => Stay.refl _ _ _⟩)
        have hpr : ∃ j c', p.r = .gho j c' ∨ ∃ k c', p.r = .ref k c' := by
          have hal : (rootCell (⟨[], rf, argSlots 0 args⟩ : St) p.r).isOwn = true := by
            simp only [SV.copy, copyCs_get, Option.map_eq_some_iff] at hc
            obtain ⟨c0, hc0, rfl⟩ := hc
            have hget : rootCell (⟨[], rf, argSlots 0 args⟩ : St) (.gho i k) = c0 := by
              simp only [rootCell, look_argSlots, Nat.zero_le, if_true, Nat.sub_zero, hx, Option.getD_some]
              unfold SV.get
              split
              · rename_i e; exact absurd e hs
              · rw [hc0]; rfl
            rcases Cell.copy_places hp with ⟨h2, h3⟩ | h2
            · rw [h3, Nat.zero_add, hget]; exact h2
            · exact h.al (.gho i k) p (by rw [hget]; exact h2)
          cases hr : p.r with
          | slot s c' => rw [hr] at hal; simp [rootCell, look, SV.get, Cell.isOwn] at hal
          | res c' => rw [hr] at hal; simp [rootCell, Cell.isOwn] at hal
          | gho j c' => exact ⟨j, c', .inl rfl⟩
          | ref k c' => exact ⟨k, c', .inr ⟨k, c', rfl⟩⟩
        obtain ⟨j, c', h5 | ⟨k, c', h5⟩⟩ := hpr <;> rw [h5] at h0 ⊢ <;> exact h0
  have hfin := h.r.move (m' := { m with T := T }) (ω' := ω) (fun _ => false) (fun s => .inr rfl) rfl
    (fun r v c hc hne _ hcr => by
      refine hcr.keep (Stay.refl _ _ _) (fun _ _ => Stay.refl _ _ _) (fun _ _ => rfl) (fun p hp => ⟨fun v0 h0 => ?_, fun q _ => Stay.refl _ _ _⟩)
      have hal := h.al r p (by rw [hc]; exact hp)
      cases hr : p.r with
      | slot s c' => rw [hr] at hal; simp [rootCell, look, SV.get, Cell.isOwn] at hal
      | res c' => rw [hr] at hal; simp [rootCell, Cell.isOwn] at hal
      | gho j c' => rw [hr] at h0; exact h0
      | ref k c' => rw [hr] at h0; exact h0)
    (fun k hk => ⟨rfl, fun arr elem h1 h2 => ⟨h2, h1⟩⟩)
  rw [filt_false] at hfin
  have hroot : ∀ r, (∀ s c, r ≠ .slot s c) → rootCell (⟨paramSlots 0 args, rf, argSlots 0 args⟩ : St) r = rootCell (⟨[], rf, argSlots 0 args⟩ : St) r := fun r hr => by
    cases r with
    | slot s c => exact absurd rfl (hr s c)
    | _ => rfl
  have hns : ∀ p : Pl, (rootCell (⟨[], rf, argSlots 0 args⟩ : St) p.r).isOwn = true → (rootCell (⟨paramSlots 0 args, rf, argSlots 0 args⟩ : St) p.r).isOwn = true := fun p hp => by
    rw [hroot]; exact hp
    intro s c e; rw [e] at hp; simp [rootCell, look, SV.get, Cell.isOwn] at hp
  refine ⟨⟨hmain, hfin.gh, hfin.rf⟩, fun r p hp => ?_⟩
  by_cases hr : ∃ s c, r = .slot s c
  · obtain ⟨i, c, rfl⟩ := hr
    simp only [rootCell, look_paramSlots, Nat.zero_le, if_true, Nat.sub_zero, SV.get_copy] at hp
    refine hns p ?_
    have hg : rootCell (⟨[], rf, argSlots 0 args⟩ : St) (.gho i c) = (((args[i]?).getD .undef).get c) := by
      simp only [rootCell, look_argSlots, Nat.zero_le, if_true, Nat.sub_zero]
    rcases Cell.copy_places hp with ⟨h2, h3⟩ | h2
    · rw [h3, hg]; exact h2
    · exact h.al (.gho i c) p (by rw [hg]; exact h2)
  · rw [hroot r (fun s c e => hr ⟨s, c, e⟩)] at hp
    exact hns p (h.al r p hp)
def resVal : List Value → Value
  | [v] => v
  | vs => .tuple vs.toArray
def resOne (T : Array Value) : ResultVar → Sem Value
  | .tmp t => pure (T.getD t undef)
  | .cell a t => do loadVar t (← asAddr (T.getD a undef))
theorem results_run {P : Program} {fn : Func} {T : Array Value} {w : World} {vs : List Value} (h : (fn.results.toList.mapM (resOne T)).run P w = .ok vs w) : (results fn T).run P w = .ok (resVal vs) w := by
  have e : results fn T = (do
    let vs ← fn.results.mapM (resOne T)
    pure (if h : vs.size = 1 then vs[0] else .tuple vs)) := rfl
  rw [e, Array.mapM_eq_mapM_toList, Sem.run_bind, Sem.run_map, h]
  simp only [Result.andThen_ok, Sem.run_pure]
  match vs with
  | [] => rfl
  | [t] => rfl
  | t :: t' :: rs => simp [resVal]
def mRes (P : Program) : List ResultVar → List RS → Bool
  | [], [] => true
  | .tmp t :: xs, .tmp t' :: ys => t == t' && mRes P xs ys
  | .cell t ty :: xs, .cell t' n ag :: ys => t == t' && tyIs P ty ag n && mRes P xs ys
  | _, _ => false
theorem resCell_CR {ω' : Nat → Lab} {w : World} {T T' : Array Value} {G : Array Value} {rb rb' : Nat → Nat} {r r' : Root} {v : Value} {c : Cell} (hl : ∀ b q, ω b = .at r q → ω' b = .at r' q) (hf : ∀ b, ω b = .frame → ω' b = .frame)
    (h : CR ω ⟨T, G, w, rb⟩ r v c) : CR ω' ⟨T', G, w, rb'⟩ r' v (resCell c) := by
  cases c with
  | own sz rows => exact rd_carry _ _ _ _ (fun q ad k arr elem fz hh hq => ⟨hh, hl _ _ hq.1, hq.2⟩) h
  | ro sz rows => exact rd_carry _ _ _ _ (fun q ad k arr elem fz hh hq => ⟨hh, hf _ hq⟩) h
  | int k n => exact h
  | bool b => exact h
  | str s => exact h
  | _ => trivial
def itemOk (ω : Nat → Lab) (m : Mc) (v : Value) (x : RB × Bool × List Cell) : Prop :=
  (match x.2.1 with
    | true => ∃ arr, v = .agg arr ∧ arr.size = x.2.2.length
    | false => Value.single v = true ∧ x.2.2.length = 1) ∧ CRs ω m x.1.fam 0 (flat1 v) x.2.2
theorem flat1_single {v : Value} (h : Value.single v = true) : flat1 v = [v] ∧ flatV v = [v] := by
  cases v <;> simp [Value.single] at h <;> exact ⟨rfl, rfl⟩
theorem item_sound (h : RR ω m st) {r : ResultVar} {x : RS} {y : RB × Bool × List Cell} (hm : mRes P [r] [x] = true) (hi : x.item st = some y) :
    ∃ v, (resOne m.T r).run P m.w = .ok v m.w ∧ itemOk ω m v y := by
  cases r with
  | tmp t =>
    cases x with
    | cell _ _ _ => simp [mRes] at hm
    | tmp t' =>
      simp only [mRes, Bool.and_true, beq_iff_eq] at hm; subst hm
      refine ⟨m.T.getD t undef, rfl, ?_⟩
      have hs := h.r.sl t
      simp only [RS.item] at hi
      split at hi
      · rename_i hsh
        simp only [Option.some.injEq] at hi; subst hi
        rw [SVR_iff (by rw [hsh]; simp), hsh] at hs
        have hsing : Value.single (m.T.getD t undef) = true := hs.1
        have h2 := hs.2
        rw [(flat1_single hsing).2] at h2
        exact ⟨⟨hsing, by rw [CRs_iff] at h2; simpa using h2.1.symm⟩, by rw [(flat1_single hsing).1]; exact h2⟩
      · rename_i hsh
        simp only [Option.some.injEq] at hi; subst hi
        rw [SVR_iff (by rw [hsh]; simp), hsh] at hs
        obtain ⟨⟨arr, harr⟩, h2⟩ := hs
        rw [harr] at h2
        refine ⟨⟨arr, harr, by rw [CRs_iff] at h2; simpa [flatV] using h2.1⟩, ?_⟩
        rw [harr]; exact h2
      · simp at hi
  | cell a t =>
    cases x with
    | tmp _ => simp [mRes] at hm
    | cell t' n ag =>
      simp only [mRes, Bool.and_true, Bool.and_eq_true, beq_iff_eq] at hm
      obtain ⟨rfl, hty⟩ := hm
      simp only [RS.item] at hi
      split at hi
      · rename_i k o hc
        have hp := (SVR_c1 (h.r.sl a) (by rw [hc]; simp)).2
        rw [hc] at hp
        have hp' : m.T.getD a undef = .pointer (some ⟨m.rb k, o, none⟩) := hp
        split at hi
        · rename_i cs hcs
          split at hi
          · rename_i hcond
            obtain ⟨rfl, hn⟩ := hcond
            obtain ⟨arr, elem, h1, h2, h3⟩ := h.r.rf k cs hcs
            have hlen : arr.toList.length = n := by rw [CRs_iff] at h3; rw [h3.1, hn]
            have hrun := run_loadVar (P := P) (w := m.w) (o := 0) hty h1 arr.toList hlen (fun j v hj => by simpa using hj)
            refine ⟨if ag then .agg arr.toList.toArray else arr.toList.headD undef, ?_, ?_⟩
            · simp only [resOne, hp', asAddr, pure_bind]
              exact hrun
            · cases ag with
              | true =>
                simp only [if_true, Option.some.injEq] at hi; subst hi
                exact ⟨⟨arr, rfl, by rw [hn]; exact hlen⟩, h3⟩
              | false =>
                simp only [Bool.false_eq_true, if_false] at hi
                split at hi
                · rename_i c
                  split at hi
                  · rename_i hpl
                    simp only [Option.some.injEq] at hi; subst hi
                    have hl1 : arr.toList.length = 1 := by rw [hlen, ← hn]; rfl
                    obtain ⟨u, hu⟩ : ∃ u, arr.toList = [u] := by
                      cases hx : arr.toList with
                      | nil => rw [hx] at hl1; simp at hl1
                      | cons u us => cases us with
                        | nil => exact ⟨u, rfl⟩
                        | cons _ _ => rw [hx] at hl1; simp at hl1
                    rw [hu] at h3
                    have hsing : Value.single u = true := CR_single h3.1 hpl
                    simp only [hu, Bool.false_eq_true, if_false, List.headD_cons]
                    refine ⟨⟨hsing, rfl⟩, ?_⟩
                    rw [(flat1_single hsing).1]; exact h3
                  · simp at hi
                · simp at hi
          · simp at hi
        · simp at hi
      · simp at hi
theorem gather_run (h : RR ω m st) : ∀ (xs : List ResultVar) (rs : List RS) (l : List (RB × Bool × List Cell)), mRes P xs rs = true → gather st rs = some l →
    ∃ vs : List Value, (xs.mapM (resOne m.T)).run P m.w = .ok vs m.w ∧ vs.length = l.length ∧ ∀ (i : Nat) v x, vs[i]? = some v → l[i]? = some x → itemOk ω m v x
  | [], [], l, _, hg => by
    simp only [gather, Option.some.injEq] at hg; subst hg
    exact ⟨[], rfl, rfl, by simp⟩
  | x :: xs, r :: rs, l, hm, hg => by
    simp only [gather] at hg
    split at hg
    · rename_i y l1 h1 h2
      simp only [Option.some.injEq] at hg; subst hg
      have hm1 : mRes P [x] [r] = true ∧ mRes P xs rs = true := by
        cases x <;> cases r <;> simp [mRes] at hm ⊢ <;> first | exact ⟨hm.1, hm.2⟩ | exact ⟨⟨hm.1.1, hm.1.2⟩, hm.2⟩
      obtain ⟨v, h3, h4⟩ := item_sound h hm1.1 h1
      obtain ⟨vs, h5, h6, h7⟩ := gather_run h xs rs l1 hm1.2 h2
      refine ⟨v :: vs, ?_, by simp [h6], fun i u z hu hz => ?_⟩
      · rw [List.mapM_cons, Sem.run_bind, h3]
        simp only [Result.andThen_ok, Sem.run_bind, h5, Sem.run_pure]
      · cases i with
        | zero => simp at hu hz; subst hu; subst hz; exact h4
        | succ i => simp at hu hz; exact h7 i u z hu hz
    · simp at hg
  | [], _ :: _, _, hm, _ => by simp [mRes] at hm
  | _ :: _, [], _, hm, _ => by rename_i x _ _; cases x <;> simp [mRes] at hm
theorem items_sound {w : World} {T T' : Array Value} {G : Array Value} {rb rb' : Nat → Nat} {OFF : RB → Option Nat} {ω' : Nat → Lab}
    (hl : ∀ t j c b q, OFF t = some j → ω b = .at (t.fam c) q → ω' b = .at (.res (j + c)) q) (hf : ∀ b, ω b = .frame → ω' b = .frame) :
    ∀ (l : List (RB × Bool × List Cell)) (vs : List Value) (j : Nat), itemsNodup l = true → vs.length = l.length → (∀ (i : Nat) v x, vs[i]? = some v → l[i]? = some x → itemOk ω ⟨T, G, w, rb⟩ v x) →
      (∀ t x, (∃ y ∈ l, y.1 = t) → resOff l j t = some x → OFF t = some x) →
      compOk vs (itemComps l) ∧ CRs ω' ⟨T', G, w, rb'⟩ .res j (vs.flatMap flat1) (itemCells l)
  | [], [], j, _, _, _, _ => ⟨trivial, trivial⟩
  | [], _ :: _, _, _, h, _, _ => by simp at h
  | _ :: _, [], _, _, h, _, _ => by simp at h
  | (b, ag, cs) :: l, v :: vs, j, hnd, hlen, hit, hoff => by
    simp only [itemsNodup, Bool.and_eq_true] at hnd
    have hoff0 : OFF b = some j := hoff b j ⟨(b, ag, cs), by simp, rfl⟩ (by simp [resOff])
    obtain ⟨h1, h2⟩ := hit 0 v (b, ag, cs) rfl rfl
    have hcr : CRs ω' ⟨T', G, w, rb'⟩ .res j (flat1 v) (cs.map resCell) := by
      rw [CRs_iff] at h2 ⊢
      refine ⟨by simpa using h2.1, fun i v c hvv hc => ?_⟩
      simp only [List.getElem?_map, Option.map_eq_some_iff] at hc
      obtain ⟨c0, hc0, rfl⟩ := hc
      have := h2.2 i v c0 hvv hc0
      rw [Nat.zero_add] at this
      exact resCell_CR (fun b' q hb => hl b j i b' q hoff0 hb) hf this
    have ih := items_sound (T' := T') (rb' := rb') (OFF := OFF) hl hf l vs (j + cs.length) hnd.2 (by simpa using hlen) (fun i v x hv hx => hit (i + 1) v x (by simpa using hv) (by simpa using hx))
      (fun t x ht hx => hoff t x (by obtain ⟨y, hy, e⟩ := ht; exact ⟨y, by simp [hy], e⟩) (by
        simp only [resOff]
        rw [if_neg]; exact hx
        intro e; subst e
        obtain ⟨y, hy, e⟩ := ht
        have := List.all_eq_true.1 hnd.1 y hy
        simp [e] at this))
    refine ⟨?_, ?_⟩
    · simp only [itemComps]
      cases ag with
      | true => exact ⟨h1, ih.1⟩
      | false => exact ⟨h1, ih.1⟩
    · simp only [List.flatMap_cons, itemCells]
      exact CRs_append _ _ _ _ _ hcr (by rw [List.length_map]; exact ih.2)
end
section
variable {P : Program} {E : Env} {ω : Nat → Lab} {m : Mc} {st : St}
theorem look_forgetAll (st : St) : (forget (fun _ => false) (fun k => decide (KEY ≤ k)) st).sl = [] := by
  have : ∀ (l : Slots), keepS (fun _ => false) l = [] := by
    intro l
    induction l with
    | nil => rfl
    | cons x l ih => obtain ⟨j, v⟩ := x; exact ih
  unfold forget
  split <;> exact this _
theorem rf_forgetAll (st : St) {k : Nat} (h : (lookR (forget (fun _ => false) (fun k => decide (KEY ≤ k)) st).rf k).isSome = true) : KEY ≤ k := by
  unfold forget at h
  split at h <;> simp only [lookR_keepS] at h <;> by_cases hk : KEY ≤ k <;> simp [hk] at h <;> exact hk
theorem finish_sound {fn : Func} {w : World} {T : Array Value} {G : Array Value} {rb rb0 : Nat → Nat} {rs : List RS} {res : SV} {gh : Slots} {rf' : Refs} (h : RR ω ⟨T, G, w, rb⟩ st) (hrb : ∀ k, KEY ≤ k → rb k = rb0 k)
    (hr : mRes P fn.results.toList rs = true) (hf : finish st rs = some (res, gh, rf')) :
    ∃ ω' v, (results fn T).run P w = .ok v w ∧ RR ω' ⟨#[], G, w, rb0⟩ ⟨[], rf', gh⟩ ∧ SVR ω' ⟨#[], G, w, rb0⟩ .res v res ∧ (∀ b, ω b = .frame → ω' b = .frame) := by
  unfold finish at hf
  split at hf
  · rename_i l0 h0
    split at hf
    · rename_i st1 h1
      obtain ⟨ω1, hR1, hfr⟩ := ownAll_sound h h1
      split at hf
      · rename_i l hg
        split at hf
        · rename_i hnd
          simp only [Bool.and_eq_true] at hnd
          obtain ⟨hnd, hloc⟩ := hnd
          simp only [Option.some.injEq, Prod.mk.injEq] at hf
          obtain ⟨rfl, rfl, rfl⟩ := hf
          obtain ⟨vs, hrun, hlen, hits⟩ := gather_run (P := P) hR1 _ rs l hr hg
          have hS := hR1.forget (p := fun _ => false) (q := fun k => decide (KEY ≤ k))
          generalize hSS : forget (fun _ => false) (fun k => decide (KEY ≤ k)) st1 = S at hS ⊢
          have hsl : S.sl = [] := by rw [← hSS]; exact look_forgetAll _
          have hrf : ∀ k, (lookR S.rf k).isSome = true → KEY ≤ k := fun k hk => by rw [← hSS] at hk; exact rf_forgetAll _ hk
          have hnos : ∀ s c, rootCell S (.slot s c) = .undef := fun s c => by simp [rootCell, hsl, look, SV.get]
          have hrefs : ∀ r k c, r = .ref k c → rootCell S r ≠ .undef → KEY ≤ k := fun r k c hr hne => by
            subst hr
            refine hrf k ?_
            simp only [rootCell] at hne
            cases hl : lookR S.rf k with
            | none => simp [hl] at hne
            | some _ => rfl
          have hlab : ∀ r q, rootCell S r ≠ .undef → resLab l (.at r q) = .at r q := fun r q hr => by
            cases r with
            | slot s c => exact absurd (hnos s c) hr
            | gho _ _ => rfl
            | res _ => rfl
            | ref k c =>
              have := hrefs _ k c rfl hr
              simp only [resLab]
              cases ho : resOff l 0 (.r k) with
              | none => rfl
              | some j => have := resOff_local hloc ho; omega
          have hmv := hS.r.move (m' := ⟨#[], G, w, rb0⟩) (ω' := fun b => resLab l (ω1 b)) hitKeys (fun s => .inr (by rw [hsl]; rfl)) rfl
            (fun r v c hc hne hk hcr => by
              refine hcr.keep (fun b x hx hb => ⟨hx, by simp only [hb]; rfl⟩) (fun _ q b x hx hb => ⟨hx, by simp only [hb]; exact hlab r q (by rw [hc]; exact hne)⟩) (fun k hkk => ?_) (fun p hp => ?_)
              · simp only [hitKeys, List.any_eq_false, decide_eq_true_eq] at hk
                exact (hrb k (by have := hk k hkk; omega)).symm
              · have hal := hS.al r p (by rw [hc]; exact hp)
                have hpn : rootCell S p.r ≠ .undef := by intro e; rw [e] at hal; simp [Cell.isOwn] at hal
                refine ⟨fun v0 h0 => ?_, fun q _ b x hx hb => ⟨hx, by simp only [hb]; exact hlab p.r q hpn⟩⟩
                cases hr : p.r with
                | slot s c' => rw [hr] at hpn; exact absurd (hnos s c') hpn
                | res c' => rw [hr] at h0; exact h0
                | gho j c' => rw [hr] at h0; exact h0
                | ref k c' =>
                  have hk := hrefs p.r k c' hr hpn
                  rw [hr] at h0
                  simp only [hdR] at h0 ⊢
                  rw [hrb k hk] at h0; exact h0)
            (fun k hk => ⟨(hrb k (hrf k hk)).symm, fun arr elem e1 e2 => ⟨e2, by simp only [e1]; rfl⟩⟩)
          obtain ⟨h2, h3⟩ := items_sound (T' := #[]) (rb' := rb0) (OFF := resOff l 0) (ω' := fun b => resLab l (ω1 b))
            (fun t j c b q ho hb => by simp only [hb]; exact resLab_at ho) (fun b hb => by simp only [hb]; rfl) l vs 0 hnd hlen hits (fun t x _ hx => hx)
          refine ⟨fun b => resLab l (ω1 b), resVal vs, results_run hrun, ⟨?_, ?_⟩, ?_, fun b hb => by simp only [(hfr b).2 hb]; rfl⟩
          · exact ⟨fun s => by have := hmv.sl s; simpa [St.filt, hsl, mapS] using this, hmv.gh, hmv.rf⟩
          · have := hS.al.filt (f := hitKeys) (fun c hc => by cases c <;> simp [Cell.isOwn] at hc; simp [hitKeys, Cell.keys])
            intro r p hp
            have e : ∀ r, rootCell (⟨[], (S.filt hitKeys).rf, (S.filt hitKeys).gh⟩ : St) r = rootCell (S.filt hitKeys) r := fun r => by
              cases r with
              | slot s c => simp [rootCell, St.filt, hsl, mapS, look, SV.get]
              | _ => rfl
            rw [e] at hp ⊢
            exact this r p hp
          · have hc : (itemComps l).length = vs.length := by
              rw [hlen]; clear hits hlab hmv h2 h3 hloc hnd hg hlen
              induction l with
              | nil => rfl
              | cons x l ih => obtain ⟨_, _, _⟩ := x; simp [itemComps, ih]
            generalize itemComps l = cl at h2 hc ⊢
            match vs, cl, h2, h3, hc with
            | [], [], h2, h3, _ => exact ⟨⟨#[], rfl, trivial⟩, by simpa [resVal, flatV] using h3⟩
            | [v], [(false, n)], h2, h3, _ =>
              simp only [compOk, and_true] at h2
              refine ⟨h2.1, ?_⟩
              simp only [List.flatMap_cons, List.flatMap_nil, List.append_nil] at h3
              rw [(flat1_single h2.1).1] at h3
              simp only [resVal, (flat1_single h2.1).2]; exact h3
            | [v], [(true, n)], h2, h3, _ =>
              simp only [compOk, and_true] at h2
              obtain ⟨arr, rfl, _⟩ := h2
              refine ⟨⟨arr, rfl⟩, ?_⟩
              simp only [List.flatMap_cons, List.flatMap_nil, List.append_nil, flat1] at h3
              simpa [resVal, flatV] using h3
            | v :: v' :: vs, x :: y :: cl, h2, h3, _ =>
              have e : resSh (x :: y :: cl) = .tup (x :: y :: cl) := by obtain ⟨b, n⟩ := x; cases b <;> rfl
              rw [e]
              exact ⟨⟨_, rfl, by simpa using h2⟩, by simpa [resVal, flatV] using h3⟩
            | [], _ :: _, _, _, h => simp at h
            | [_], [], _, _, h => simp at h
            | [_], _ :: _ :: _, _, _, h => simp at h
            | _ :: _ :: _, [], _, _, h => simp at h
            | _ :: _ :: _, [_], _, _, h => simp at h
        · simp at hf
      · simp at hf
    · simp at hf
  · simp at hf
def FinR (Q : SV → List SV → Refs → Prop) (r : SV × Slots × Refs) : Prop := ∃ args', r.2.1 = argSlots 0 args' ∧ Q r.1 args' r.2.2
theorem GoodR_of_W {f : FuncId} {fn : Func} {c : Code} {x : XCode} {rs : List RS} {args : List SV} {rf : Refs} {Q : SV → List SV → Refs → Prop} (hf : P.funcs[f]? = some fn) (hb : fn.body = some c)
    (hm : mCode P fn.ntmps c x = true) (hr : mRes P fn.results.toList rs = true) (hn : args.length ≤ fn.ntmps)
    (hW : W P x (finK rs (FinR Q)) ⟨paramSlots 0 args, rf, argSlots 0 args⟩) : GoodR P f args rf Q := by
  intro w ω rb vals hsz hR
  refine calls_of_wp hf hb ?_
  refine wp_mono (w_sound (m0 := ⟨#[], vals, w, rb⟩) (ω0 := ω) (N := fn.ntmps) x c hm _ _ _ _ ⟨rfl, by simp [hsz]; omega, ω, rb, begin_sound (m := ⟨#[], vals, w, rb⟩) (fun i hi => ?_) hR, Tr.refl _ _⟩ hW) ?_
  · rw [← hsz] at hi
    simp [Array.getElem?_append_left hi]
  · rintro e a w' ⟨xe, st, rfl, ⟨hd, hsz', ω1, rb1, hR1, hT1⟩, hK⟩
    have fin : Opt (finish st rs) (FinR Q) → a.defers = [] ∧ ∃ v, (results fn a.tmps).run P w' = .ok v w' ∧
        ∃ v' ω' res args' rf', Ending.returned v = .returned v' ∧ Q res args' rf' ∧ RR ω' ⟨#[], vals, w', rb⟩ ⟨[], rf', argSlots 0 args'⟩ ∧ (∀ r, r = Root.res → SVR ω' ⟨#[], vals, w', rb⟩ r v' res) ∧ Tr ω ⟨#[], vals, w, rb⟩ ω' ⟨#[], vals, w', rb⟩ := by
      rintro ⟨⟨res, gh, rf'⟩, hy, args', rfl, hq⟩
      obtain ⟨ω2, v, h0, h1, h2, h3⟩ := finish_sound (rb0 := rb) hR1 (fun k hk => hT1.rb k hk) hr hy
      refine ⟨hd, _, h0, _, ω2, res, args', rf', rfl, hq, h1, fun r hr => by rw [hr]; exact h2, ⟨hT1.os, hT1.tape, hT1.output, hT1.size, fun b x hx hb => ?_, rfl, rfl, fun _ _ => rfl⟩⟩
      obtain ⟨e1, e2⟩ := hT1.fr b x hx hb
      exact ⟨e1, h3 b e2⟩
    cases xe with
    | normal => exact fin hK
    | ret => exact fin hK
    | exit id => exact hK.elim
def mFun (P : Program) (fn : Func) (x : XCode) (rs : List RS) (n : Nat) : Bool :=
  (match fn.body with
    | some c => mCode P fn.ntmps c x
    | none => false) && mRes P fn.results.toList rs && decide (n ≤ fn.ntmps)
theorem GoodR_of {f : FuncId} {fn : Func} {x : XCode} {rs : List RS} {args : List SV} {rf : Refs} {Q : SV → List SV → Refs → Prop} {n : Nat} (hf : P.funcs[f]? = some fn)
    (hm : mFun P fn x rs n = true) (hn : args.length = n) (hW : W P x (finK rs (FinR Q)) ⟨paramSlots 0 args, rf, argSlots 0 args⟩) : GoodR P f args rf Q := by
  simp only [mFun, Bool.and_eq_true, decide_eq_true_eq] at hm
  obtain ⟨⟨h1, h2⟩, h3⟩ := hm
  split at h1
  · rename_i c hb
    exact GoodR_of_W hf hb h1 h2 (by omega) hW
  · simp at h1
theorem callable_of {f : FuncId} (h : callableB P f = true) : Callable P f := by
  unfold callableB at h
  split at h
  · rename_i fn hf
    simp only [Bool.and_eq_true, Bool.not_eq_true'] at h
    exact ⟨fn, hf, h.1, h.2⟩
  · simp at h
end
theorem Opt_put_if {c : Prop} [Decidable c] {st : St} {d : Nat} {x y : Option SV} {K : St → Prop} (hc : c) (h : Opt (putQ st d x) K) : Opt (putQ st d (if c then x else y)) K := by rw [if_pos hc]; exact h
theorem Opt_bind_if {c : Prop} [Decidable c] {st : St} {d : Nat} {α : Type} {x y : Option α} {g : α → Option SV} {K : St → Prop} (hc : c) (h : Opt (putQ st d (x.bind g)) K) : Opt (putQ st d ((if c then x else y).bind g)) K := by rw [if_pos hc]; exact h
theorem Opt_bind_ifn {c : Prop} [Decidable c] {st : St} {d : Nat} {α : Type} {x y : Option α} {g : α → Option SV} {K : St → Prop} (hc : ¬c) (h : Opt (putQ st d (y.bind g)) K) : Opt (putQ st d ((if c then x else y).bind g)) K := by rw [if_neg hc]; exact h
theorem WI_mono {P : Program} : ∀ (x : XL) (K1 K2 : St → Prop) (st : St), (∀ s, K1 s → K2 s) → WI P x K1 st → WI P x K2 st
  | .nil, _, _, _, h, hh => h _ hh
  | .op i r, K1, K2, st, h, hh => by
    have ih := fun s => WI_mono (P := P) r K1 K2 s h
    have h1 : ∀ s, goK P i (WI P r K1) s → goK P i (WI P r K2) s := fun s => goW_mono fun y => ih _
    have h2 : ∀ s, skipK i (WI P r K1) s → skipK i (WI P r K2) s := fun s => ih _
    simp only [WI] at hh ⊢
    split
    · rename_i e; rw [e] at hh; exact h1 _ hh
    · rename_i t want e
      rw [e] at hh
      simp only at hh
      split
      · rename_i b hb
        rw [hb] at hh
        cases b <;> cases want <;> simp only [Br, guardK] at hh ⊢ <;> first | exact h1 _ hh | exact h2 _ hh
      · rename_i hb
        split at hh
        · rename_i b hb'; exact absurd hb' (hb b)
        · exact hh
  | .sc t want blk ks d g c rhs kill r, K1, K2, st, h, hh => by
    have ih := fun s => WI_mono (P := P) r K1 K2 s h
    simp only [WI] at hh ⊢
    split
    · rename_i b hb
      rw [hb] at hh
      obtain ⟨h1, h2, h3, x, h4, h5⟩ := hh
      exact ⟨h1, h2, h3, x, h4, ih _ h5⟩
    · rename_i hb
      split at hh
      · rename_i b hb'; exact absurd hb' (hb b)
      · exact hh
theorem dvGo_mono {P : Program} {x : XD} {d : Nat} {K1 K2 : St → Prop} {st : St} (h : ∀ s, K1 s → K2 s) (hh : dvGo P x d K1 st) : dvGo P x d K2 st := by
  unfold dvGo at hh ⊢
  split
  · rename_i cs e
    rw [e] at hh
    exact ⟨hh.1, hh.2.1, hh.2.2.1, h _ hh.2.2.2⟩
  · rename_i f args refs e
    rw [e] at hh
    simp only at hh
    unfold dvCall at hh ⊢
    split
    · simp only at hh
      exact ⟨hh.1, CallW_mono (fun _ _ _ hk => ⟨hk.1, hk.2.1, h _ hk.2.2⟩) hh.2⟩
    · rename_i hno
      split at hh
      · exact absurd rfl hno
      · exact hh
  · rename_i op hne hne2
    split at hh
    · rename_i cs e; exact absurd e (hne cs)
    · rename_i f args refs e; exact absurd e (hne2 f args refs)
    · exact Opt_mono (fun y hy => ⟨hy.1, h _ hy.2⟩) hh
theorem DV_mono {P : Program} : ∀ (xs : List XD) (K1 K2 : St → Prop) (st : St), (∀ s, K1 s → K2 s) → DV P xs K1 st → DV P xs K2 st
  | [], _, _, st, h, hh => h st hh
  | x :: xs, K1, K2, st, h, hh => by
    have ih := fun s => DV_mono (P := P) xs K1 K2 s h
    simp only [DV] at hh ⊢
    split
    · rename_i d hd
      rw [hd] at hh
      refine ⟨hh.1, ?_⟩
      have h2 := hh.2
      split
      · rename_i hg; rw [hg] at h2; exact dvGo_mono ih h2
      · rename_i t want hg
        rw [hg] at h2
        simp only at h2
        split
        · rename_i b hs hc
          rw [hs, hc] at h2
          simp only at h2
          cases b <;> cases want <;> simp only [Br, dvG] at h2 ⊢ <;> first | exact dvGo_mono ih h2 | exact ih _ h2
        · rename_i hs hc
          rw [hs, hc] at h2
          exact ih _ h2
        · rename_i n1 n2
          split at h2
          · rename_i b hs hc; exact absurd hc (n1 b hs)
          · rename_i hs hc; exact absurd hc (n2 hs)
          · exact h2
    · rename_i hd
      rw [hd] at hh; exact hh
theorem W_mono {P : Program} : ∀ (x : XCode) (K1 K2 : XExit → St → Prop) (st : St), (∀ e s, K1 e s → K2 e s) → W P x K1 st → W P x K2 st
  | .skip, _, _, _, h, hh => h _ _ hh
  | .ret, _, _, _, h, hh => h _ _ hh
  | .exit _, _, _, _, h, hh => h _ _ hh
  | .ops k l, _, _, _, h, hh => WI_mono l _ _ _ (fun s => h _ _) hh
  | .seq a b, K1, K2, st, h, hh => W_mono a _ _ st (fun e s hs => by
      cases e with
      | normal => exact W_mono b _ _ s h hs
      | exit _ => exact h _ _ hs
      | ret => exact h _ _ hs) hh
  | .cond x a b, K1, K2, st, h, hh => by
    simp only [W] at hh ⊢
    split
    · rename_i t ht
      rw [ht] at hh
      cases t <;> simp only [Br, condK] at hh ⊢
      · exact W_mono b _ _ st h hh
      · exact W_mono a _ _ st h hh
    · rename_i hb
      split at hh
      · rename_i b hb'; exact absurd hb' (hb b)
      · exact hh
  | .block id a, K1, K2, st, h, hh => W_mono a _ _ st (fun e s hs => by
      cases e with
      | normal => exact h _ _ hs
      | exit id' =>
        simp only [blkK] at hs ⊢
        split
        · rename_i e; rw [if_pos e] at hs; exact h _ _ hs
        · rename_i e; rw [if_neg e] at hs; exact h _ _ hs
      | ret => exact h _ _ hs) hh
  | .loop a, K1, K2, st, h, hh => by
    obtain ⟨I, h0, hr⟩ := hh
    refine ⟨I, h0, fun n s hs => W_mono a _ _ s (fun e s hs => ?_) (hr n s hs)⟩
    cases e with
    | normal => exact hs
    | exit _ => exact h _ _ hs
    | ret => exact h _ _ hs
  | .any vs ts, K1, K2, st, h, hh => DV_mono vs _ _ st (fun s => WI_mono (opsL ts) _ _ s (fun s' => h _ s')) hh
  | .keep _ _ a, K1, K2, st, h, hh => W_mono a _ _ _ h hh
section
variable {P : Program}
theorem Good_of {f : FuncId} {fn : Func} {x : XCode} {rs : List RS} {args args' : List SV} {rf rf' : Refs} {res : SV} {n : Nat} (hf : P.funcs[f]? = some fn)
    (hm : mFun P fn x rs n = true) (hn : args.length = n) (hW : W P x (finK rs (Fin res args' rf')) ⟨paramSlots 0 args, rf, argSlots 0 args⟩) : Good P f args rf res args' rf' := by
  have h := GoodR_of (Q := fun r a g => r = res ∧ a = args' ∧ g = rf') hf hm hn (W_mono x _ _ _ (fun e s hs => by
    cases e with
    | exit _ => exact hs
    | normal => obtain ⟨y, hy, e⟩ := hs; exact ⟨y, hy, args', by rw [e], by rw [e], rfl, by rw [e]⟩
    | ret => obtain ⟨y, hy, e⟩ := hs; exact ⟨y, hy, args', by rw [e], by rw [e], rfl, by rw [e]⟩) hW)
  intro w ω rb vals h1 h2
  refine Calls.mono (h w ω rb vals h1 h2) ?_
  rintro e w' ⟨v, ω', r, a, g, e1, ⟨rfl, rfl, rfl⟩, e3⟩
  exact ⟨v, ω', e1, e3⟩
def fnOk (P : Program) (f : FuncId) (x : XCode) (rs : List RS) (n : Nat) : Bool := match P.funcs[f]? with
  | some fn => callableB P f && mFun P fn x rs n
  | none => false
theorem F_of {f : FuncId} {x : XCode} {rs : List RS} {args args' : List SV} {rf rf' : Refs} {res : SV} {n : Nat} {pre : Prop}
    (hm : fnOk P f x rs n = true) (hn : args.length = n) (hW : pre → W P x (finK rs (Fin res args' rf')) ⟨paramSlots 0 args, rf, argSlots 0 args⟩) : Fc P f args rf pre res args' rf' := by
  unfold fnOk at hm
  split at hm
  · rename_i fn hf
    simp only [Bool.and_eq_true] at hm
    exact ⟨fun h => ⟨callable_of hm.1, Good_of hf hm.2 hn (hW h)⟩⟩
  · simp at hm
theorem FR_of {f : FuncId} {x : XCode} {rs : List RS} {args : List SV} {rf : Refs} {n : Nat} {pre : Prop} {α : Type} {I : α → Prop} {res : α → SV} {args' : α → List SV} {rf' : α → Refs}
    (hm : fnOk P f x rs n = true) (hn : args.length = n) (hW : pre → W P x (finK rs (FinR fun r a g => ∃ x, I x ∧ r = res x ∧ a = args' x ∧ g = rf' x)) ⟨paramSlots 0 args, rf, argSlots 0 args⟩) : FcR P f args rf pre α I res args' rf' := by
  unfold fnOk at hm
  split at hm
  · rename_i fn hf
    simp only [Bool.and_eq_true] at hm
    exact ⟨fun h => ⟨callable_of hm.1, GoodR_of hf hm.2 hn (hW h)⟩⟩
  · simp at hm
end
theorem W_cut {P : Program} {a b : XCode} {K : XExit → St → Prop} {st : St} (M : St → Prop) (h : W P a (thenK M K) st) (h2 : ∀ s, M s → W P b K s) : W P (.seq a b) K st := by
  simp only [W]
  refine W_mono a _ _ st (fun e s hs => ?_) h
  cases e with
  | normal => exact h2 s hs
  | exit _ => exact hs
  | ret => exact hs
def LoopJ {α : Type} (S : α → St) (I : α → Prop) (m : α → Nat) (n : Nat) (s : St) : Prop := ∃ n', n' < n ∧ ∃ b, s = S b ∧ I b ∧ m b = n'
theorem LoopJ_of {α : Type} {S : α → St} {I : α → Prop} {m : α → Nat} {n : Nat} {s : St} (b : α) (hs : s = S b) (hI : I b) (hm : m b < n) : LoopJ S I m n s := ⟨m b, hm, b, hs, hI, rfl⟩
theorem LoopW_of {α : Type} (S : α → St) (I : α → Prop) (m : α → Nat) (a0 : α) {P : Program} {x : XCode} {K : XExit → St → Prop} {st : St} (h0 : st = S a0) (hI : I a0)
    (h : ∀ a, I a → W P x (loopK (LoopJ S I m (m a)) K) (S a)) : LoopW (W P x) K st :=
  ⟨fun n s => ∃ b, s = S b ∧ I b ∧ m b = n, ⟨m a0, a0, h0, hI, rfl⟩, fun n s hs => by
    obtain ⟨b, rfl, hIb, rfl⟩ := hs
    exact h b hIb⟩
def keepF (sl rf : List Nat) (st : St) : St := forget (fun s => sl.contains s) (fun k => KEY ≤ k || rf.contains k) st
def LoopQ {α : Type} (sl rf : List Nat) (S : α → St) (I : α → Prop) (m : α → Nat) (n : Nat) (s : St) : Prop := ∃ n', n' < n ∧ ∃ b, keepF sl rf s = S b ∧ I b ∧ m b = n'
theorem LoopQ_of {α : Type} {sl rf : List Nat} {S : α → St} {I : α → Prop} {m : α → Nat} {n : Nat} {s : St} (b : α) (hs : keepF sl rf s = S b) (hI : I b) (hm : m b < n) : LoopQ sl rf S I m n s := ⟨m b, hm, b, hs, hI, rfl⟩
theorem LoopK_of {α : Type} (S : α → St) (I : α → Prop) (m : α → Nat) (a0 : α) {P : Program} {sl rf : List Nat} {x : XCode} {K : XExit → St → Prop} {st : St} (h0 : keepF sl rf st = S a0) (hI : I a0)
    (h : ∀ a, I a → W P x (loopK (LoopQ sl rf S I m (m a)) K) (S a)) : LoopW (W P (.keep sl rf x)) K st :=
  ⟨fun n s => ∃ b, keepF sl rf s = S b ∧ I b ∧ m b = n, ⟨m a0, a0, h0, hI, rfl⟩, fun n s hs => by
    obtain ⟨b, hb, hIb, rfl⟩ := hs
    show W P x _ (keepF sl rf s)
    rw [hb]
    exact h b hIb⟩
abbrev i64 (n : Int) : SV := ⟨.one, [.int .i64 n]⟩
abbrev bl (b : Bool) : SV := ⟨.one, [.bool b]⟩
abbrev st1 (s : ByteArray) : SV := ⟨.one, [.str s]⟩
theorem ScW_of {want b : Bool} {blk : (St → Prop) → St → Prop} {t : Nat} {ks : List Nat} {d : Nat} {g : Option (Nat × Bool)} {c rhs : XO} {K : St → Prop} {st : St} (x : Bool)
    (h1 : putSlot st t ⟨.one, [.bool b]⟩ = st) (h2 : (evX (killSt ks st) c).c1 = .bool b) (h3 : gateOk g (killSt ks st))
    (h4 : b = want → blk (scEnd rhs x ks (killSt ks (putSlot st t ⟨.one, [.bool want]⟩))) (putSlot st t ⟨.one, [.bool want]⟩))
    (h5 : K (putSlot (killSt ks st) d ⟨.one, [.bool (scVal want b x)]⟩)) : ScW want b blk t ks d g c rhs K st := ⟨h1, h2, h3, x, h4, h5⟩
section
variable {P : Program} {K : St → Prop} {L : XExit → St → Prop} {st : St}
@[go_sem] theorem putQ_some {d : Nat} {x : SV} : putQ st d (some x) = some (putSlot st d x) := rfl
@[go_sem] theorem putQ_none {d : Nat} : putQ st d none = none := rfl
@[go_sem] theorem putA_some {d : Nat} {x : List Cell} : putA st d (some x) = some (putSlot st d ⟨.agg, x⟩) := rfl
@[go_sem] theorem putA_none {d : Nat} : putA st d none = none := rfl
@[go_sem ↓] theorem W_skip : W P .skip L st = L .normal st := rfl
@[go_sem ↓] theorem W_ret : W P .ret L st = L .ret st := rfl
@[go_sem ↓] theorem W_exit {id : Nat} : W P (.exit id) L st = L (.exit id) st := rfl
@[go_sem ↓] theorem W_ops {k : List Nat} {l : XL} : W P (.ops k l) L st = WI P l (killK k (L .normal)) st := rfl
@[go_sem ↓] theorem W_seq {a b : XCode} : W P (.seq a b) L st = W P a (thenK (W P b L) L) st := rfl
def condW (A B : St → Prop) (st : St) : Cell → Prop
  | .bool t => Br t (condK A B st)
  | _ => False
@[go_sem ↓] theorem W_cond {x : XO} {a b : XCode} : W P (.cond x a b) L st = condW (W P a L) (W P b L) st (evX st x).c1 := rfl
@[go_sem ↓] theorem condW_bool {A B : St → Prop} {t : Bool} : condW A B st (.bool t) = Br t (condK A B st) := rfl
@[go_sem ↓] theorem W_block {id : Nat} {a : XCode} : W P (.block id a) L st = W P a (blkK id L) st := rfl
@[go_sem ↓] theorem W_loop {a : XCode} : W P (.loop a) L st = LoopW (W P a) L st := rfl
@[go_sem ↓] theorem W_any {vs ts : List XD} : W P (.any vs ts) L st = DV P vs (WI P (opsL ts) (L .normal)) st := rfl
@[go_sem ↓] theorem DV_nil : DV P [] K st = K st := rfl
@[go_sem ↓] theorem DV_cons {d : Nat} {o : XOp} {kl cl dr : List Nat} {xs : List XD} : DV P (⟨⟨some d, none, o, kl⟩, cl, dr⟩ :: xs) K st = ((look st.sl d).absent = true ∧ dvGo P ⟨⟨some d, none, o, kl⟩, cl, dr⟩ d (DV P xs K) st) := rfl
def dvGd (P : Program) (x : XD) (d : Nat) (want : Bool) (K : St → Prop) (st : St) : Sh → List Cell → Prop
  | .one, [.bool b] => Br b (dvG want (dvGo P x d K st) (dvSkip d K st))
  | .tup [], [] => dvSkip d K st
  | _, _ => False
@[go_sem ↓] theorem DV_consg {d t : Nat} {want : Bool} {o : XOp} {kl cl dr : List Nat} {xs : List XD} : DV P (⟨⟨some d, some (t, want), o, kl⟩, cl, dr⟩ :: xs) K st =
    ((look st.sl d).absent = true ∧ dvGd P ⟨⟨some d, some (t, want), o, kl⟩, cl, dr⟩ d want (DV P xs K) st (look (dropOnly dr st).sl t).sh (look (dropOnly dr st).sl t).cs) := rfl
@[go_sem ↓] theorem dvGd_bool {x : XD} {d : Nat} {want b : Bool} : dvGd P x d want K st .one [.bool b] = Br b (dvG want (dvGo P x d K st) (dvSkip d K st)) := rfl
@[go_sem ↓] theorem dvGd_un {x : XD} {d : Nat} {want : Bool} : dvGd P x d want K st (.tup []) [] = dvSkip d K st := rfl
@[go_sem ↓] theorem dvPut_eq {d : Nat} {y : SV} : dvPut d K st y = (y.known = true ∧ K ⟨putS st.sl d y, st.rf, st.gh⟩) := rfl
@[go_sem ↓] theorem dvSkip_eq {d : Nat} : dvSkip d K st = K ⟨putS st.sl d ⟨.tup [], []⟩, st.rf, st.gh⟩ := rfl
@[go_sem ↓] theorem dvG_tt {A B : Prop} : dvG true A B true = A := rfl
@[go_sem ↓] theorem dvG_tf {A B : Prop} : dvG true A B false = B := rfl
@[go_sem ↓] theorem dvG_ft {A B : Prop} : dvG false A B true = B := rfl
@[go_sem ↓] theorem dvG_ff {A B : Prop} : dvG false A B false = A := rfl
@[go_sem ↓] theorem W_keep {sl rf : List Nat} {a : XCode} : W P (.keep sl rf a) L st = W P a L (forget (fun s => sl.contains s) (fun k => KEY ≤ k || rf.contains k) st) := rfl
@[go_sem ↓] theorem WI_nil : WI P .nil K st = K st := rfl
def opW (P : Program) (i : XI) (J K : St → Prop) (st : St) : Option (Nat × Bool) → Prop
  | none => goK P i K st
  | some (t, want) => match (look st.sl t).c1 with
    | .bool b => Br b (guardK want (goK P i K) (skipK i K) st)
    | _ => False
theorem WI_op0 {i : XI} {is : XL} : WI P (.op i is) K st = opW P i K (WI P is K) st i.guard := rfl
@[go_sem ↓] theorem WI_op {d : Option Nat} {o : XOp} {kl : List Nat} {is : XL} : WI P (.op ⟨d, none, o, kl⟩ is) K st = goW P st d (killK kl (WI P is K)) o := rfl
def gdW (P : Program) (i : XI) (want : Bool) (K : St → Prop) (st : St) : Cell → Prop
  | .bool b => Br b (guardK want (goK P i K) (skipK i K) st)
  | _ => False
@[go_sem ↓] theorem WI_opg {d : Option Nat} {t : Nat} {want : Bool} {o : XOp} {kl : List Nat} {is : XL} : WI P (.op ⟨d, some (t, want), o, kl⟩ is) K st = gdW P ⟨d, some (t, want), o, kl⟩ want (WI P is K) st (look st.sl t).c1 := rfl
@[go_sem ↓] theorem gdW_bool {i : XI} {want b : Bool} : gdW P i want K st (.bool b) = Br b (guardK want (goK P i K) (skipK i K) st) := rfl
def scW (P : Program) (want : Bool) (blk : XL) (t : Nat) (ks : List Nat) (d : Nat) (g : Option (Nat × Bool)) (c rhs : XO) (K : St → Prop) (st : St) : Cell → Prop
  | .bool b => ScW want b (WI P blk) t ks d g c rhs K st
  | _ => False
@[go_sem ↓] theorem WI_sc {t : Nat} {want : Bool} {blk : XL} {ks : List Nat} {d : Nat} {g : Option (Nat × Bool)} {c rhs : XO} {kl : List Nat} {is : XL} :
    WI P (.sc t want blk ks d g c rhs kl is) K st = scW P want blk t ks d g c rhs (killK kl (WI P is K)) st (look st.sl t).c1 := rfl
@[go_sem ↓] theorem scW_bool {want b : Bool} {blk : XL} {t : Nat} {ks : List Nat} {d : Nat} {g : Option (Nat × Bool)} {c rhs : XO} : scW P want blk t ks d g c rhs K st (.bool b) = ScW want b (WI P blk) t ks d g c rhs K st := rfl
@[go_sem ↓] theorem goK_eq {i : XI} : goK P i K st = goW P st i.dst (killK i.kill K) i.op := rfl
@[go_sem ↓] theorem skipK_eq {i : XI} : skipK i K st = K (killR i.kill (skipDst st i.dst)) := rfl
@[go_sem ↓] theorem killK_eq {l : List Nat} : killK l K st = K (killR l st) := rfl
variable {f : St → Prop}
@[go_sem ↓] theorem thenK_n : thenK f L .normal st = f st := rfl
@[go_sem ↓] theorem thenK_e {id : Nat} : thenK f L (.exit id) st = L (.exit id) st := rfl
@[go_sem ↓] theorem thenK_r : thenK f L .ret st = L .ret st := rfl
@[go_sem ↓] theorem blkK_n {id : Nat} : blkK id L .normal st = L .normal st := rfl
@[go_sem ↓] theorem blkK_e {id id' : Nat} : blkK id L (.exit id') st = if id' = id then L .normal st else L (.exit id') st := rfl
@[go_sem ↓] theorem blkK_r {id : Nat} : blkK id L .ret st = L .ret st := rfl
variable {I : St → Prop}
@[go_sem ↓] theorem loopK_n : loopK I L .normal st = I st := rfl
@[go_sem ↓] theorem loopK_e {id : Nat} : loopK I L (.exit id) st = L (.exit id) st := rfl
@[go_sem ↓] theorem loopK_r : loopK I L .ret st = L .ret st := rfl
variable {A B : St → Prop}
@[go_sem ↓] theorem condK_t : condK A B st true = A st := rfl
@[go_sem ↓] theorem condK_f : condK A B st false = B st := rfl
@[go_sem ↓] theorem guardK_tt : guardK true A B st true = A st := rfl
@[go_sem ↓] theorem guardK_tf : guardK true A B st false = B st := rfl
@[go_sem ↓] theorem guardK_ft : guardK false A B st true = B st := rfl
@[go_sem ↓] theorem guardK_ff : guardK false A B st false = A st := rfl
@[go_sem ↓] theorem goW_eq {d : Option Nat} {op : XOp} : goW P st d K op = (match op with
  | .call f args refs => callW P st d f (evArgs st args) refs K
  | .callv x args refs => callvW P st d (evArgs st args) refs K (evX st x).c1
  | op => Opt (step noE st d op) K) := rfl
@[go_sem ↓] theorem callvW_fn {d : Option Nat} {f : FuncId} {fi ca : List Cell} {args : List (Bool × SV)} {refs : List Nat} : callvW P st d args refs K (.fn (.func f) fi ca) = callW P st d f (evCaps fi ++ args ++ evCaps ca) refs K := rfl
@[go_sem] theorem callW_eq {d : Option Nat} {f : FuncId} {args : List (Bool × SV)} {refs : List Nat} : callW P st d f args refs K = callLs P st d f args refs K (allLents st 0 args) := rfl
@[go_sem ↓] theorem callLs_eq {d : Option Nat} {f : FuncId} {args : List (Bool × SV)} {refs : List Nat} {L' : List (Root × Nat × Nat)} : callLs P st d f args refs K L' = (((lentsOk L' refs && cellsNodup L') && args.all (fun x => x.2.known)) = true ∧ callRf P st d f args L' refs K (callRefs st 0 refs)) := rfl
@[go_sem ↓] theorem callRf_some {d : Option Nat} {f : FuncId} {args : List (Bool × SV)} {refs : List Nat} {L' : List (Root × Nat × Nat)} {rf : Refs} : callRf P st d f args L' refs K (some rf) = CallR P f (callArgs st L' refs args) rf (callK st L' refs d K) := rfl
@[go_sem ↓] theorem callK_eq {d : Option Nat} {refs : List Nat} {L' : List (Root × Nat × Nat)} {res : SV} {args' : List SV} {rf' : Refs} : callK st L' refs d K res args' rf' = ((res.fresh && refsThere rf' 0 refs.length) = true ∧ K (putDst (afterSt st L' refs args' rf') d res)) := rfl
@[go_sem ↓] theorem dvCall_nil {d : Nat} {s : St} {f : FuncId} {args : List (Bool × SV)} : dvCall P d K st s f args [] = (argsOk s args = true ∧ CallW P f (callArgs s [] [] args) [] (dvK d K st)) := rfl
@[go_sem ↓] theorem dvK_eq {d : Nat} {res : SV} {args' : List SV} {rf' : Refs} : dvK d K st res args' rf' = (res.fresh = true ∧ dvPut d K st res) := rfl
variable {rs : List RS} {Q : SV × Slots × Refs → Prop}
@[go_sem ↓] theorem finK_n : finK rs Q .normal st = Opt (finish st rs) Q := rfl
@[go_sem ↓] theorem finK_r : finK rs Q .ret st = Opt (finish st rs) Q := rfl
@[go_sem ↓] theorem Br_t {g : Bool → Prop} : Br true g = g true := rfl
@[go_sem ↓] theorem Br_f {g : Bool → Prop} : Br false g = g false := rfl
end
attribute [go_sem] shiftBin strBin RB.s.injEq RB.r.injEq dvGo noHit vop vq dropOnly SV.absent argsOk lendOk scalCells opsL Cell.notAl eqCell eqCells hitN KEY bsliceSt partCells elemDs chunk clearOf grab moveOut appSt mksSt slcOSt rowsAt toCells D.toCell D.roCell Sh.of extAt numOfD numsOf svCell tyIs skipDst killSt killR inR forget keepS dropsOwnS dropsOwnR step asgSt evX look lookR SV.copy copyCs Cell.copy ownAll takes putSlot putS SV.owns Cell.isOwn qop SV.c1 binC isShift intBin one scVal gateOk
  finish gather RS.item resRoots alRoots itemsNodup itemsLocal resSh itemComps itemCells resCell St.filt mapS mapR SV.filt Cell.filt hitKeys hitF rootKept Cell.keys keysL Cell.places placesL Fin paramSlots argSlots
  Opt_some RB.fam evArgs evCaps cellSV allLents lentsOf lentsOk rootsNodup natsNodup cellsNodup callRefs callArgs argCells roCell roCells idxOf badRoot lentOf SV.known SV.fresh refsThere putDst afterSt
  boxSt allocSt newRef hitK putR boxSt load mkLoad Cell.plain storeSt storeRef unC rowsOf rowsAt rootCell pathRows loBound hiBound
  buildCells setRoot updS updR SV.set SV.get hitS Root.isSlot splice ownize moveOut hasRoot SV.has
attribute [go_sem] List.map_cons List.map_nil List.any_cons List.any_nil List.all_cons List.all_nil List.contains_cons List.contains_nil List.append_nil List.nil_append List.cons_append if_true if_false Bool.or_false Bool.false_or Bool.or_true Bool.true_or Bool.and_true Bool.true_and Bool.and_false Bool.false_and
  Bool.not_false Bool.not_true Bool.false_eq_true Option.bind_some Option.map_some reduceCtorEq decide_true decide_false List.length_cons List.length_nil List.getElem?_cons_zero List.getElem?_cons_succ List.getElem?_nil Option.getD_some Option.getD_none
  List.drop_zero List.drop_succ_cons List.take_succ_cons List.take_zero List.take_nil List.drop_nil ite_self and_true true_and and_self List.set_cons_zero List.set_cons_succ List.flatten_cons List.flatten_nil
section
variable {P : Program} {K : St → Prop} {L : XExit → St → Prop} {st st' : St}
@[congr] theorem W_congr {x : XCode} (h : st = st') : W P x L st = W P x L st' := by rw [h]
@[congr] theorem WI_congr {x : XL} (h : st = st') : WI P x K st = WI P x K st' := by rw [h]
@[congr] theorem DV_congr {x : List XD} (h : st = st') : DV P x K st = DV P x K st' := by rw [h]
@[congr] theorem LoopW_congr {w : (XExit → St → Prop) → St → Prop} (h : st = st') : LoopW w L st = LoopW w L st' := by rw [h]
@[congr] theorem Opt_congr {α : Type} {o o' : Option α} {K : α → Prop} (h : o = o') : Opt o K = Opt o' K := by rw [h]
@[congr] theorem Br_congr {b b' : Bool} {f : Bool → Prop} (h : b = b') : Br b f = Br b' f := by rw [h]
@[congr] theorem CallW_congr {f : FuncId} {args args' : List SV} {rf rf' : Refs} {k : SV → List SV → Refs → Prop} (h : args = args') (h2 : rf = rf') : CallW P f args rf k = CallW P f args' rf' k := by rw [h, h2]
@[congr] theorem CallR_congr {f : FuncId} {args args' : List SV} {rf rf' : Refs} {k : SV → List SV → Refs → Prop} (h : args = args') (h2 : rf = rf') : CallR P f args rf k = CallR P f args' rf' k := by rw [h, h2]
@[congr] theorem callW_congr {d : Option Nat} {f : FuncId} {args args' : List (Bool × SV)} {refs : List Nat} (h : args = args') : callW P st d f args refs K = callW P st d f args' refs K := by rw [h]
@[congr] theorem callvW_congr {d : Option Nat} {c c' : Cell} {args args' : List (Bool × SV)} {refs : List Nat} (h : args = args') (h2 : c = c') : callvW P st d args refs K c = callvW P st d args' refs K c' := by rw [h, h2]
@[congr] theorem callLs_congr {d : Option Nat} {f : FuncId} {args : List (Bool × SV)} {refs : List Nat} {l l' : List (Root × Nat × Nat)} (h : l = l') : callLs P st d f args refs K l = callLs P st d f args refs K l' := by rw [h]
@[congr] theorem callRf_congr {d : Option Nat} {f : FuncId} {args : List (Bool × SV)} {l : List (Root × Nat × Nat)} {refs : List Nat} {o o' : Option Refs} (h : o = o') : callRf P st d f args l refs K o = callRf P st d f args l refs K o' := by rw [h]
@[congr] theorem dvCall_congr {d : Nat} {s s' : St} {f : FuncId} {args args' : List (Bool × SV)} {refs : List Nat} (h : s = s') (h2 : args = args') : dvCall P d K st s f args refs = dvCall P d K st s' f args' refs := by rw [h, h2]
@[congr] theorem condW_congr {A B : St → Prop} {c c' : Cell} (h : c = c') : condW A B st c = condW A B st c' := by rw [h]
@[congr] theorem gdW_congr {i : XI} {want : Bool} {c c' : Cell} (h : c = c') : gdW P i want K st c = gdW P i want K st c' := by rw [h]
@[congr] theorem dvGd_congr {x : XD} {d : Nat} {want : Bool} {s s' : Sh} {c c' : List Cell} (h : s = s') (h2 : c = c') : dvGd P x d want K st s c = dvGd P x d want K st s' c' := by rw [h, h2]
@[congr] theorem scW_congr {want : Bool} {blk : XL} {t : Nat} {ks : List Nat} {d : Nat} {g : Option (Nat × Bool)} {c rhs : XO} {e e' : Cell} (h : e = e') : scW P want blk t ks d g c rhs K st e = scW P want blk t ks d g c rhs K st e' := by rw [h]
@[congr] theorem ScW_congr {want b b' : Bool} {blk : (St → Prop) → St → Prop} {t : Nat} {ks : List Nat} {d : Nat} {g : Option (Nat × Bool)} {c rhs : XO} (h : b = b') (h2 : st = st') : ScW want b blk t ks d g c rhs K st = ScW want b' blk t ks d g c rhs K st' := by rw [h, h2]
@[congr] theorem scEnd_congr {rhs : XO} {x : Bool} {ks : List Nat} {s : St} (h : st = st') : scEnd rhs x ks s st = scEnd rhs x ks s st' := by rw [h]
end
def rowsB (l : List Int) : List (List D) := l.map fun b => [.int .u8 b]
@[go_sem] theorem numsOf_rowsB : ∀ l : List Int, numsOf (rowsB l) = some l
  | [] => rfl
  | b :: l => by
    have ih := numsOf_rowsB l
    simp only [rowsB, List.map_cons] at ih ⊢
    simp only [numsOf, numOfD, ih]
theorem rowsB_snoc (l : List Int) (b : Int) : rowsB l ++ [[.int .u8 b]] = rowsB (l ++ [b]) := by simp [rowsB]
@[go_sem] theorem rowsB_length (l : List Int) : (rowsB l).length = l.length := by simp [rowsB]
theorem rowsB_nil : ([] : List (List D)) = rowsB [] := rfl
end Go.Eng

namespace Go.Eng
open Go Go.RowKit
section
variable {P : Program}
def Given (w : World) (v : Value) (x : SV) : Prop := SVR (fun _ => .frame) ⟨#[], #[], w, fun _ => 0⟩ (fun _ => .res 0) v x
def SV.plain (x : SV) : Bool := x.cs.all fun c => match c with
  | .int _ _ => true
  | .bool _ => true
  | .str _ => true
  | .ro _ _ => true
  | _ => false
theorem given_any {w : World} {v : Value} {x : SV} (hp : x.plain = true) (h : Given w v x) (m : Mc) (hm : m.w = w) (r : Nat → Root) : SVR (fun _ => .frame) m r v x := by
  unfold Given at h
  by_cases hs : x.sh = .no
  · exact SVR_no hs
  · rw [SVR_iff hs, CRs_iff] at h ⊢
    refine ⟨h.1, h.2.1, fun i u c hu hc => ?_⟩
    have h1 := h.2.2 i u c hu hc
    have h2 := List.all_eq_true.1 hp c (List.mem_of_getElem? hc)
    cases c with
    | int k n => exact h1
    | bool b => exact h1
    | str s => exact h1
    | ro sz rows => subst hm; exact h1
    | _ => simp at h2
theorem calls_of_good {f : FuncId} {args args' : List SV} {rf' : Refs} {b : Bool} (hG : Good P f args [] (bl b) args' rf') {W : World} {vals : Array Value} (hsz : vals.size = args.length) (hp : args.all SV.plain = true)
    (hv : ∀ (i : Nat) v x, vals[i]? = some v → args[i]? = some x → Given W v x) :
    Calls P f vals W fun e W' => e = .returned (.bool b) ∧ Below W.heap.size W W' := by
  have hal : ∀ r p, p ∈ (rootCell (⟨[], [], argSlots 0 args⟩ : St) r).places → False := by
    intro r p hpp
    cases r with
    | slot s c => simp [rootCell, look, SV.get, Cell.places] at hpp
    | res c => simp [rootCell, Cell.places] at hpp
    | ref k c => simp [rootCell, lookR, Cell.places] at hpp
    | gho i c =>
      simp only [rootCell, look_argSlots, Nat.zero_le, if_true, Nat.sub_zero] at hpp
      cases hx : args[i]? with
      | none => simp [hx, SV.get, Cell.places] at hpp
      | some x =>
        simp only [hx, Option.getD_some] at hpp
        by_cases hu : x.get c = .undef
        · rw [hu] at hpp; simp [Cell.places] at hpp
        · have h1 := List.all_eq_true.1 (List.all_eq_true.1 hp x (List.mem_of_getElem? hx)) _ (SV.get_mem hu)
          generalize x.get c = cc at hpp h1
          cases cc <;> simp [Cell.places] at hpp h1
  refine Calls.mono (hG W (fun _ => .frame) (fun _ => 0) vals hsz ⟨⟨fun s => SVR_no rfl, fun i => ?_, fun k cs hk => by simp [lookR] at hk⟩, fun r p hpp => (hal r p hpp).elim⟩) ?_
  · simp only [look_argSlots, Nat.zero_le, if_true, Nat.sub_zero]
    cases hx : args[i]? with
    | none => exact SVR_no rfl
    | some x =>
      have hi : i < vals.size := by rw [hsz]; exact (List.getElem?_eq_some_iff.1 hx).1
      have hvi : vals[i]? = some vals[i] := Array.getElem?_eq_getElem hi
      have e : vals.getD i undef = vals[i] := by simp [Array.getD, hi]
      simp only [Option.getD_some]
      rw [e]
      exact given_any (List.all_eq_true.1 hp x (List.mem_of_getElem? hx)) (hv i _ x hvi hx) _ rfl _
  · rintro e W' ⟨v, ω', rfl, _, hres, hT⟩
    refine ⟨?_, hT.os, hT.tape, hT.output, hT.size, fun k hk => ?_⟩
    · have := hres .res rfl
      have hb : v = .bool b := (SVR_c1 this (by simp [SV.c1])).2
      rw [hb]
    · have hx : W.heap[k]? = some W.heap[k] := Array.getElem?_eq_getElem hk
      rw [hx]; exact (hT.fr k _ hx rfl).1
end
end Go.Eng
