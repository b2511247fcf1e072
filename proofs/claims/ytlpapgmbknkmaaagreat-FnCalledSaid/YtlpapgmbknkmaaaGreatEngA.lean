/-
  A logic over pure values for the walk of Go functions: its definitions and their soundness, for every program; no condition.
-/
import Derived.Below
import Derived.Laws.Bits64b
import Derived.Laws.BytesArg
import Derived.Laws.Closers25b
import Derived.Laws.Concat
import Derived.Laws.Shifts
import Derived.Laws.ShiftsVar
import Derived.Laws.Slices
import Derived.Laws.Strings3
import Derived.Laws.StructEq
import Derived.Laws.Unary
import Derived.Laws.Wrap64
import Derived.Orders
import Derived.RegionCalls
set_option linter.unusedSimpArgs false
set_option linter.unusedVariables false
set_option maxRecDepth 100000
set_option maxHeartbeats 2000000
namespace Go.Eng
open Go
inductive D where
  | int (k : IntKind) (n : Int)
  | bool (b : Bool)
  | str (s : ByteArray)
  | lst (sz : Nat) (rows : List (List D))
  | gone
inductive Root where
  | slot (s c : Nat)
  | ref (k c : Nat)
  | gho (i c : Nat)
  | res (c : Nat)
  deriving DecidableEq
abbrev Path := List Nat
inductive Lab where
  | frame
  | junk
  | blk (k : Nat)
  | at (r : Root) (p : Path)
  deriving DecidableEq
structure Pl where
  r : Root
  p : Path
abbrev BP := Path → Addr → Nat → Array Value → Nat × Nat → Prop
mutual
def rd (w : World) : D → BP → Value → Prop
  | .int k n, _, v => v = .int k n
  | .bool b, _, v => v = .bool b
  | .str s, _, v => v = .string s
  | .gone, _, _ => True
  | .lst sz rows, Q, v => ∃ a cap, v = .slice a rows.length cap ∧ rows.length ≤ cap ∧ (∀ r ∈ rows, r.length = sz) ∧
      (cap = 0 ∨ ∃ ad arr elem fz, a = some ad ∧ ad.spot = none ∧ w.heap[ad.block]? = some (.cells arr elem fz) ∧ Q [] ad (cap * sz) arr fz ∧
        rdRows w rows Q arr ad.off 0)
def rdCs (w : World) : List D → BP → Array Value → Nat → Nat → Prop
  | [], _, _, _, _ => True
  | d :: ds, Q, arr, o, j => (∃ v, arr[o + j]? = some v ∧ rd w d (fun q => Q (j :: q)) v) ∧ rdCs w ds Q arr o (j + 1)
def rdRows (w : World) : List (List D) → BP → Array Value → Nat → Nat → Prop
  | [], _, _, _, _ => True
  | r :: rs, Q, arr, o, j => rdCs w r Q arr o j ∧ rdRows w rs Q arr o (j + r.length)
end
theorem rdCs_append (w : World) (Q : BP) (arr : Array Value) (o : Nat) : ∀ (xs ys : List D) (j : Nat),
    rdCs w (xs ++ ys) Q arr o j ↔ rdCs w xs Q arr o j ∧ rdCs w ys Q arr o (j + xs.length)
  | [], ys, j => by simp [rdCs]
  | x :: xs, ys, j => by
    simp only [List.cons_append, rdCs, rdCs_append w Q arr o xs ys (j + 1), List.length_cons, and_assoc]
    rw [show j + 1 + xs.length = j + (xs.length + 1) by omega]
theorem rdRows_flat (w : World) (Q : BP) (arr : Array Value) (o : Nat) : ∀ (rows : List (List D)) (j : Nat),
    rdRows w rows Q arr o j ↔ rdCs w rows.flatten Q arr o j
  | [], j => by simp [rdRows, rdCs]
  | r :: rs, j => by simp only [rdRows, List.flatten_cons, rdCs_append, rdRows_flat w Q arr o rs]
theorem rdCs_iff (w : World) (Q : BP) (arr : Array Value) (o : Nat) : ∀ (ds : List D) (j : Nat),
    rdCs w ds Q arr o j ↔ ∀ i d, ds[i]? = some d → ∃ v, arr[o + (j + i)]? = some v ∧ rd w d (fun q => Q ((j + i) :: q)) v
  | [], j => by simp [rdCs]
  | d :: ds, j => by
    simp only [rdCs, rdCs_iff w Q arr o ds (j + 1)]
    constructor
    · rintro ⟨h0, h⟩ i e he
      cases i with
      | zero => simp only [List.getElem?_cons_zero, Option.some.injEq] at he; subst he; exact h0
      | succ i => simp only [List.getElem?_cons_succ] at he; have := h i e he; rw [show j + 1 + i = j + (i + 1) by omega] at this; exact this
    · intro h
      refine ⟨h 0 d rfl, fun i e he => ?_⟩
      have := h (i + 1) e (by simpa using he)
      rw [show j + 1 + i = j + (i + 1) by omega]; exact this
def Carries (w w' : World) (Q Q' : BP) : Prop :=
  ∀ q ad m arr elem fz, w.heap[ad.block]? = some (.cells arr elem fz) → Q q ad m arr fz →
    w'.heap[ad.block]? = some (.cells arr elem fz) ∧ Q' q ad m arr fz
theorem Carries.sub {w w' : World} {Q Q' : BP} (h : Carries w w' Q Q') (j : Nat) : Carries w w' (fun q => Q (j :: q)) (fun q => Q' (j :: q)) :=
  fun q ad m arr elem fz hh hq => h (j :: q) ad m arr elem fz hh hq
mutual
theorem rd_carry {w w' : World} : ∀ (d : D) (Q Q' : BP) (v : Value), Carries w w' Q Q' → rd w d Q v → rd w' d Q' v
  | .int k n, _, _, v, _, h => h
  | .bool b, _, _, v, _, h => h
  | .str s, _, _, v, _, h => h
  | .gone, _, _, _, _, _ => trivial
  | .lst sz rows, Q, Q', v, hc, h => by
    obtain ⟨a, cap, hv, hle, hr, h⟩ := h
    refine ⟨a, cap, hv, hle, hr, ?_⟩
    rcases h with h | ⟨ad, arr, elem, fz, ha, hs, hh, hq, hrows⟩
    · exact .inl h
    · obtain ⟨h1, h2⟩ := hc [] ad _ arr elem fz hh hq
      exact .inr ⟨ad, arr, elem, fz, ha, hs, h1, h2, rdRows_carry rows Q Q' arr ad.off 0 hc hrows⟩
theorem rdCs_carry {w w' : World} : ∀ (ds : List D) (Q Q' : BP) (arr : Array Value) (o j : Nat), Carries w w' Q Q' → rdCs w ds Q arr o j → rdCs w' ds Q' arr o j
  | [], _, _, _, _, _, _, _ => trivial
  | d :: ds, Q, Q', arr, o, j, hc, h => by
    obtain ⟨⟨v, hv, hd⟩, h⟩ := h
    exact ⟨⟨v, hv, rd_carry d _ _ v (hc.sub j) hd⟩, rdCs_carry ds Q Q' arr o (j + 1) hc h⟩
theorem rdRows_carry {w w' : World} : ∀ (rows : List (List D)) (Q Q' : BP) (arr : Array Value) (o j : Nat), Carries w w' Q Q' → rdRows w rows Q arr o j → rdRows w' rows Q' arr o j
  | [], _, _, _, _, _, _, _ => trivial
  | r :: rs, Q, Q', arr, o, j, hc, h => ⟨rdCs_carry r Q Q' arr o j hc h.1, rdRows_carry rs Q Q' arr o (j + r.length) hc h.2⟩
end
def Qown (ω : Nat → Lab) (r : Root) (p : Path) : BP := fun q ad m arr fz => ω ad.block = .at r (p ++ q) ∧ fz = (0, 0) ∧ ad.off + m ≤ arr.size
def Qro (ω : Nat → Lab) : BP := fun _ ad _ _ _ => ω ad.block = .frame
inductive Cell where
  | undef
  | int (k : IntKind) (n : Int)
  | bool (b : Bool)
  | str (s : ByteArray)
  | own (sz : Nat) (rows : List (List D))
  | ro (sz : Nat) (rows : List (List D))
  | rov (u : Value) (sz : Nat) (rows : List (List D))
  | al (p : Pl)
  | ptr (k o : Nat)
  | eptr (p : Pl) (o : Nat)
  | rptr (ds : List D)
  | st (cs : List Cell)
  | fn (f : Fn) (fi ca : List Cell)
inductive Sh where
  | no
  | one
  | agg
  | tup (l : List (Bool × Nat))
structure SV where
  sh : Sh
  cs : List Cell
abbrev SV.undef : SV := ⟨.no, []⟩
structure Mc where
  T : Array Value
  G : Array Value
  w : World
  rb : Nat → Nat
def flat1 : Value → List Value
  | .agg cs => cs.toList
  | v => [v]
def flatV : Value → List Value
  | .agg cs => cs.toList
  | .tuple vs => vs.toList.flatMap flat1
  | v => [v]
def onPath (ω : Nat → Lab) (w : World) (r : Root) : Path → Path → Value → Value → Prop
  | _, [], v, u => v = u
  | q, o :: p, v, u => ∃ ad n cap arr elem fz v', v = .slice (some ad) n cap ∧ ad.spot = none ∧ ω ad.block = .at r q ∧
      w.heap[ad.block]? = some (.cells arr elem fz) ∧ arr[ad.off + o]? = some v' ∧ onPath ω w r (q ++ [o]) p v' u
def hdR (m : Mc) : Root → Option Value
  | .slot s c => (flatV (m.T.getD s undef))[c]?
  | .gho i c => (flatV (m.G.getD i undef))[c]?
  | .ref k c => match m.w.heap[m.rb k]? with
    | some (.cells arr _ _) => arr[c]?
    | _ => none
  | .res _ => none
def hd (ω : Nat → Lab) (m : Mc) (p : Pl) (v : Value) : Prop := ∃ v0, hdR m p.r = some v0 ∧ onPath ω m.w p.r [] p.p v0 v
def Cell.isOwn : Cell → Bool
  | .own _ _ => true
  | _ => false
def ptrV (rb : Nat → Nat) (p : Nat × Nat) : Value := .pointer (some ⟨rb p.1, p.2, none⟩)
def Value.single : Value → Bool
  | .agg _ => false
  | .tuple _ => false
  | _ => true
mutual
def CRx (ω : Nat → Lab) (m : Mc) : Cell → Root → Value → Prop
  | .undef, _, _ => True
  | .int k n, _, v => v = .int k n
  | .bool b, _, v => v = .bool b
  | .str s, _, v => v = .string s
  | .own sz rows, r, v => rd m.w (.lst sz rows) (Qown ω r []) v
  | .ro sz rows, _, v => rd m.w (.lst sz rows) (Qro ω) v
  | .rov u sz rows, _, v => v = u ∧ rd m.w (.lst sz rows) (Qro ω) u
  | .al p, _, v => hd ω m p v ∧ Value.single v = true
  | .ptr k o, _, v => v = ptrV m.rb (k, o)
  | .eptr p o, _, v => ∃ ad n cap, hd ω m p (.slice (some ad) n cap) ∧ ad.spot = none ∧ v = .pointer (some ⟨ad.block, ad.off + o, none⟩)
  | .rptr ds, _, v => ∃ b o arr elem fz, v = .pointer (some ⟨b, o, none⟩) ∧ m.w.heap[b]? = some (.cells arr elem fz) ∧ ω b = .frame ∧ rdCs m.w ds (Qro ω) arr o 0
  | .st cs, r, v => ∃ arr, v = .agg arr ∧ CRl ω m cs r arr.toList
  | .fn f fi ca, r, v => ∃ fv cv, v = .func f fv cv ∧ CRl ω m fi r fv.toList ∧ CRl ω m ca r cv.toList
def CRl (ω : Nat → Lab) (m : Mc) : List Cell → Root → List Value → Prop
  | [], _, vs => vs = []
  | c :: cs, r, vs => ∃ v rest, vs = v :: rest ∧ c.isOwn = false ∧ CRx ω m c r v ∧ CRl ω m cs r rest
end
abbrev CR (ω : Nat → Lab) (m : Mc) (r : Root) (v : Value) (c : Cell) : Prop := CRx ω m c r v
def CRs (ω : Nat → Lab) (m : Mc) (r : Nat → Root) : Nat → List Value → List Cell → Prop
  | _, [], [] => True
  | j, v :: vs, c :: cs => CR ω m (r j) v c ∧ CRs ω m r (j + 1) vs cs
  | _, _, _ => False
theorem CRs_iff (ω : Nat → Lab) (m : Mc) (r : Nat → Root) : ∀ (vs : List Value) (cs : List Cell) (j : Nat),
    CRs ω m r j vs cs ↔ vs.length = cs.length ∧ ∀ (i : Nat) v c, vs[i]? = some v → cs[i]? = some c → CR ω m (r (j + i)) v c
  | [], [], j => by simp [CRs]
  | [], c :: cs, j => by simp [CRs]
  | v :: vs, [], j => by simp [CRs]
  | v :: vs, c :: cs, j => by
    simp only [CRs, CRs_iff ω m r vs cs (j + 1), List.length_cons, Nat.add_right_cancel_iff]
    constructor
    · rintro ⟨h0, hl, h⟩
      refine ⟨hl, fun i v' c' hv hc => ?_⟩
      cases i with
      | zero => simp at hv hc; subst hv; subst hc; exact h0
      | succ i => simp at hv hc; have := h i v' c' hv hc; rw [show j + 1 + i = j + (i + 1) by omega] at this; exact this
    · rintro ⟨hl, h⟩
      refine ⟨h 0 v c rfl rfl, hl, fun i v' c' hv hc => ?_⟩
      have := h (i + 1) v' c' (by simpa using hv) (by simpa using hc)
      rw [show j + 1 + i = j + (i + 1) by omega]; exact this
def compOk : List Value → List (Bool × Nat) → Prop
  | [], [] => True
  | v :: vs, (true, n) :: l => (∃ arr, v = .agg arr ∧ arr.size = n) ∧ compOk vs l
  | v :: vs, (false, n) :: l => (Value.single v = true ∧ n = 1) ∧ compOk vs l
  | _, _ => False
def shOk : Sh → Value → Prop
  | .no, _ => True
  | .one, v => Value.single v = true
  | .agg, v => ∃ arr, v = .agg arr
  | .tup l, v => ∃ arr, v = .tuple arr ∧ compOk arr.toList l
def SVR (ω : Nat → Lab) (m : Mc) (r : Nat → Root) (v : Value) (x : SV) : Prop :=
  match x.sh with
  | .no => True
  | s => shOk s v ∧ CRs ω m r 0 (flatV v) x.cs
abbrev Slots := List (Nat × SV)
def look : Slots → Nat → SV
  | [], _ => .undef
  | (j, v) :: l, s => if j = s then v else look l s
abbrev Refs := List (Nat × List Cell)
def lookR : Refs → Nat → Option (List Cell)
  | [], _ => none
  | (j, v) :: l, s => if j = s then some v else lookR l s
structure St where
  sl : Slots
  rf : Refs
  gh : Slots
structure R (ω : Nat → Lab) (m : Mc) (st : St) : Prop where
  sl : ∀ s, SVR ω m (.slot s) (m.T.getD s undef) (look st.sl s)
  gh : ∀ i, SVR ω m (.gho i) (m.G.getD i undef) (look st.gh i)
  rf : ∀ k cs, lookR st.rf k = some cs → ∃ arr elem, m.w.heap[m.rb k]? = some (.cells arr elem (0, 0)) ∧ ω (m.rb k) = .blk k ∧ CRs ω m (.ref k) 0 arr.toList cs
def putS : Slots → Nat → SV → Slots
  | [], s, v => [(s, v)]
  | (j, x) :: l, s, v => if j = s then (j, v) :: l else if j < s then (s, v) :: (j, x) :: l else (j, x) :: putS l s v
def delS : Slots → Nat → Slots
  | [], _ => []
  | (j, x) :: l, s => if j = s then delS l s else (j, x) :: delS l s
def updS : Slots → Nat → (SV → SV) → Slots
  | [], _, _ => []
  | (j, x) :: l, s, f => if j = s then (j, f x) :: l else (j, x) :: updS l s f
theorem look_putS : ∀ (l : Slots) (s : Nat) (v : SV) (t : Nat), look (putS l s v) t = if s = t then v else look l t
  | [], s, v, t => by simp [putS, look]
  | (j, x) :: l, s, v, t => by
    by_cases h : j = s
    · subst h; by_cases h2 : j = t <;> simp [putS, look, h2]
    · by_cases h3 : j < s
      · simp only [putS, h, if_false, h3, if_true, look]
      by_cases h2 : j = t
      · subst h2; simp [putS, look, h, h3, Ne.symm h]
      · simp [putS, look, h, h2, h3, look_putS l s v t]
theorem look_updS : ∀ (l : Slots) (s : Nat) (f : SV → SV) (t : Nat) (_ : f .undef = .undef), look (updS l s f) t = if s = t then f (look l t) else look l t
  | [], s, f, t, hf => by simp [updS, look, hf]
  | (j, x) :: l, s, f, t, hf => by
    by_cases h : j = s
    · subst h; by_cases h2 : j = t <;> simp [updS, look, h2]
    · by_cases h2 : j = t
      · subst h2; simp [updS, look, h, Ne.symm h]
      · simp [updS, look, h, h2, look_updS l s f t hf]
theorem look_delS : ∀ (l : Slots) (s t : Nat), look (delS l s) t = if s = t then .undef else look l t
  | [], s, t => by simp [delS, look]
  | (j, x) :: l, s, t => by
    by_cases h : j = s
    · subst h; simp only [delS, if_true, look_delS l j t, look]; by_cases h2 : j = t <;> simp [h2]
    · by_cases h2 : j = t
      · subst h2; simp [delS, look, h, Ne.symm h]
      · simp [delS, look, h, h2, look_delS l s t]
def mapS (l : Slots) (f : SV → SV) : Slots := l.map fun x => (x.1, f x.2)
theorem look_mapS (f : SV → SV) (hf : f .undef = .undef) : ∀ (l : Slots) (t : Nat), look (mapS l f) t = f (look l t)
  | [], t => by simp [mapS, look, hf]
  | (j, x) :: l, t => by
    have := look_mapS f hf l t
    by_cases h2 : j = t
    · simp [mapS, look, h2]
    · simpa [mapS, look, h2] using this
def putR : Refs → Nat → List Cell → Refs
  | [], s, v => [(s, v)]
  | (j, x) :: l, s, v => if j = s then (j, v) :: l else if j < s then (s, v) :: (j, x) :: l else (j, x) :: putR l s v
def delR : Refs → Nat → Refs
  | [], _ => []
  | (j, x) :: l, s => if j = s then delR l s else (j, x) :: delR l s
def updR : Refs → Nat → (List Cell → List Cell) → Refs
  | [], _, _ => []
  | (j, x) :: l, s, f => if j = s then (j, f x) :: l else (j, x) :: updR l s f
theorem lookR_putR : ∀ (l : Refs) (s : Nat) (v : List Cell) (t : Nat), lookR (putR l s v) t = if s = t then some v else lookR l t
  | [], s, v, t => by simp [putR, lookR]
  | (j, x) :: l, s, v, t => by
    by_cases h : j = s
    · subst h; by_cases h2 : j = t <;> simp [putR, lookR, h2]
    · by_cases h3 : j < s
      · simp only [putR, h, if_false, h3, if_true, lookR]
      by_cases h2 : j = t
      · subst h2; simp [putR, lookR, h, h3, Ne.symm h]
      · simp [putR, lookR, h, h2, h3, lookR_putR l s v t]
theorem lookR_updR : ∀ (l : Refs) (s : Nat) (f : List Cell → List Cell) (t : Nat), lookR (updR l s f) t = if s = t then (lookR l t).map f else lookR l t
  | [], s, f, t => by simp [updR, lookR]
  | (j, x) :: l, s, f, t => by
    by_cases h : j = s
    · subst h; by_cases h2 : j = t <;> simp [updR, lookR, h2]
    · by_cases h2 : j = t
      · subst h2; simp [updR, lookR, h, Ne.symm h]
      · simp [updR, lookR, h, h2, lookR_updR l s f t]
theorem lookR_delR : ∀ (l : Refs) (s t : Nat), lookR (delR l s) t = if s = t then none else lookR l t
  | [], s, t => by simp [delR, lookR]
  | (j, x) :: l, s, t => by
    by_cases h : j = s
    · subst h; simp only [delR, if_true, lookR_delR l j t, lookR]; by_cases h2 : j = t <;> simp [h2]
    · by_cases h2 : j = t
      · subst h2; simp [delR, lookR, h, Ne.symm h]
      · simp [delR, lookR, h, h2, lookR_delR l s t]
def mapR (l : Refs) (f : List Cell → List Cell) : Refs := l.map fun x => (x.1, f x.2)
theorem lookR_mapR (f : List Cell → List Cell) : ∀ (l : Refs) (t : Nat), lookR (mapR l f) t = (lookR l t).map f
  | [], t => by simp [mapR, lookR]
  | (j, x) :: l, t => by
    have := lookR_mapR f l t
    by_cases h2 : j = t
    · simp [mapR, lookR, h2]
    · simpa [mapR, lookR, h2] using this
def SV.get (v : SV) (c : Nat) : Cell := match v.sh with
  | .no => .undef
  | _ => (v.cs[c]?).getD .undef
def rootCell (st : St) : Root → Cell
  | .slot s c => (look st.sl s).get c
  | .gho i c => (look st.gh i).get c
  | .ref k c => match lookR st.rf k with
    | some cs => (cs[c]?).getD .undef
    | none => .undef
  | .res _ => .undef
def SV.set (c : Nat) (x : Cell) (v : SV) : SV := ⟨v.sh, v.cs.set c x⟩
theorem SV.set_undef (c : Nat) (x : Cell) : SV.set c x .undef = .undef := rfl
def setRoot (st : St) (r : Root) (x : Cell) : St :=
  match r with
  | .slot s c => { st with sl := updS st.sl s (SV.set c x) }
  | .gho i c => { st with gh := updS st.gh i (SV.set c x) }
  | .ref k c => { st with rf := updR st.rf k (·.set c x) }
  | .res _ => st
theorem SVR_no {ω : Nat → Lab} {m : Mc} {r : Nat → Root} {v : Value} {x : SV} (h : x.sh = .no) : SVR ω m r v x := by
  unfold SVR; rw [h]; trivial
theorem SVR_iff {ω : Nat → Lab} {m : Mc} {r : Nat → Root} {v : Value} {x : SV} (h : x.sh ≠ .no) :
    SVR ω m r v x ↔ shOk x.sh v ∧ CRs ω m r 0 (flatV v) x.cs := by
  unfold SVR; cases hx : x.sh <;> simp_all
theorem CRs_set {ω : Nat → Lab} {m : Mc} {r : Nat → Root} {vs : List Value} {cs : List Cell} {c : Nat} {x : Cell}
    (h : CRs ω m r 0 vs cs) (hx : ∀ v, vs[c]? = some v → CR ω m (r c) v x) : CRs ω m r 0 vs (cs.set c x) := by
  rw [CRs_iff] at h ⊢
  refine ⟨by simpa using h.1, fun i v d hv hd => ?_⟩
  rw [List.getElem?_set] at hd
  by_cases hc : c = i
  · subst hc
    have : c < cs.length := by rw [← h.1]; exact (List.getElem?_eq_some_iff.1 hv).1
    simp [this] at hd; subst hd; simpa using hx v hv
  · simp [hc] at hd; exact h.2 i v d hv hd
theorem SVR_set {ω : Nat → Lab} {m : Mc} {r : Nat → Root} {v : Value} {x : SV} {c : Nat} {y : Cell}
    (h : SVR ω m r v x) (hy : ∀ u, (flatV v)[c]? = some u → CR ω m (r c) u y) : SVR ω m r v (x.set c y) := by
  by_cases hs : x.sh = .no
  · exact SVR_no (x := x.set c y) hs
  · rw [SVR_iff hs] at h
    rw [SVR_iff (x := x.set c y) hs]
    exact ⟨h.1, CRs_set h.2 hy⟩
theorem SVR_cell {ω : Nat → Lab} {m : Mc} {r : Nat → Root} {v : Value} {x : SV} (hs : x.sh ≠ .no) (h : SVR ω m r v x) {c : Nat} {d : Cell}
    (hd : x.cs[c]? = some d) : ∃ u, (flatV v)[c]? = some u ∧ CR ω m (r c) u d := by
  rw [SVR_iff hs, CRs_iff] at h
  have hlt : c < (flatV v).length := by rw [h.2.1]; exact (List.getElem?_eq_some_iff.1 hd).1
  refine ⟨_, List.getElem?_eq_getElem hlt, ?_⟩
  have := h.2.2 c _ d (List.getElem?_eq_getElem hlt) hd
  simpa using this
theorem R.setRoot {ω : Nat → Lab} {m : Mc} {st : St} (h : R ω m st) {r : Root} {x : Cell} (hx : ∀ v, hdR m r = some v → CR ω m r v x) :
    R ω m (setRoot st r x) := by
  cases r with
  | slot s c =>
    refine ⟨fun t => ?_, h.gh, h.rf⟩
    simp only [Eng.setRoot, look_updS st.sl s _ t (SV.set_undef c x)]
    by_cases hst : s = t
    · subst hst; simp only [if_true]; exact SVR_set (h.sl s) (fun u hu => hx u hu)
    · simp only [hst, if_false]; exact h.sl t
  | gho s c =>
    refine ⟨h.sl, fun t => ?_, h.rf⟩
    simp only [Eng.setRoot, look_updS st.gh s _ t (SV.set_undef c x)]
    by_cases hst : s = t
    · subst hst; simp only [if_true]; exact SVR_set (h.gh s) (fun u hu => hx u hu)
    · simp only [hst, if_false]; exact h.gh t
  | ref k c =>
    refine ⟨h.sl, h.gh, fun t cs hcs => ?_⟩
    simp only [Eng.setRoot, lookR_updR] at hcs
    by_cases hst : k = t
    · subst hst
      simp only [if_true, Option.map_eq_some_iff] at hcs
      obtain ⟨cs', hcs', rfl⟩ := hcs
      obtain ⟨arr, elem, h1, h2, h3⟩ := h.rf k cs' hcs'
      refine ⟨arr, elem, h1, h2, CRs_set h3 (fun u hu => hx u ?_)⟩
      simp [hdR, h1]; simpa using hu
    · simp only [hst, if_false] at hcs; exact h.rf t cs hcs
  | res c => exact h
theorem R.drop {ω : Nat → Lab} {m : Mc} {st : St} (h : R ω m st) (r : Root) : R ω m (Eng.setRoot st r .undef) :=
  h.setRoot (fun _ _ => trivial)
theorem SVR_get {ω : Nat → Lab} {m : Mc} {r : Nat → Root} {v : Value} {x : SV} (h : SVR ω m r v x) {c : Nat} (hne : x.get c ≠ .undef) :
    ∃ u, (flatV v)[c]? = some u ∧ CR ω m (r c) u (x.get c) := by
  by_cases hs : x.sh = .no
  · simp [SV.get, hs] at hne
  · have hg : x.get c = (x.cs[c]?).getD .undef := by unfold SV.get; cases hx : x.sh <;> simp_all
    rw [hg] at hne ⊢
    cases hc : x.cs[c]? with
    | none => simp [hc] at hne
    | some d => simpa [hc] using SVR_cell hs h hc
theorem R.cell {ω : Nat → Lab} {m : Mc} {st : St} (h : R ω m st) {r : Root} (hne : rootCell st r ≠ .undef) :
    ∃ v, hdR m r = some v ∧ CR ω m r v (rootCell st r) := by
  cases r with
  | slot s i => exact SVR_get (h.sl s) hne
  | gho s i => exact SVR_get (h.gh s) hne
  | ref k i =>
    simp only [rootCell] at hne ⊢
    cases hl : lookR st.rf k with
    | none => rw [hl] at hne; exact absurd rfl hne
    | some cs =>
      rw [hl] at hne; simp only at hne ⊢
      obtain ⟨arr, elem, h1, h2, h3⟩ := h.rf k cs hl
      cases hg : cs[i]? with
      | none => rw [hg] at hne; exact absurd rfl hne
      | some d =>
        rw [CRs_iff] at h3
        have hlt : i < arr.toList.length := by rw [h3.1]; exact (List.getElem?_eq_some_iff.1 hg).1
        refine ⟨arr[i]'(by simpa using hlt), ?_, ?_⟩
        · simp only [hdR, h1]; exact Array.getElem?_eq_getElem _
        · have := h3.2 i _ d (List.getElem?_eq_getElem hlt) hg
          simpa using this
  | res c => exact absurd rfl hne
def Stay (ω ω' : Nat → Lab) (w w' : World) (l : Lab) : Prop := ∀ b x, w.heap[b]? = some x → ω b = l → w'.heap[b]? = some x ∧ ω' b = l
theorem Stay.refl (ω : Nat → Lab) (w : World) (l : Lab) : Stay ω ω w w l := fun _ _ h h' => ⟨h, h'⟩
def Cell.filt (f : Cell → Bool) (c : Cell) : Cell := if f c = true then .undef else c
def SV.filt (f : Cell → Bool) (v : SV) : SV := ⟨v.sh, v.cs.map (Cell.filt f)⟩
def St.filt (f : Cell → Bool) (st : St) : St := ⟨mapS st.sl (SV.filt f), mapR st.rf (fun cs => cs.map (Cell.filt f)), mapS st.gh (SV.filt f)⟩
theorem onPath_keep {ω ω' : Nat → Lab} {w w' : World} {r : Root} : ∀ (p q : Path) (v u : Value),
    (∀ q', (∃ t, t ≠ [] ∧ q ++ p = q' ++ t) → Stay ω ω' w w' (.at r q')) → onPath ω w r q p v u → onPath ω' w' r q p v u
  | [], _, _, _, _, h => h
  | o :: p, q, v, u, hk, h => by
    obtain ⟨ad, n, cap, arr, elem, fz, v', h1, h2, h3, h4, h5, h6⟩ := h
    obtain ⟨hs, hl⟩ := hk q ⟨o :: p, by simp, rfl⟩ ad.block _ h4 h3
    refine ⟨ad, n, cap, arr, elem, fz, v', h1, h2, hl, hs, h5, onPath_keep p (q ++ [o]) v' u (fun q' ht => ?_) h6⟩
    obtain ⟨t, ht0, ht⟩ := ht
    exact hk q' ⟨t, ht0, by rw [← ht]; simp⟩
def wayTo (p : Pl) (r : Root) (q : Path) : Prop := r = p.r ∧ ∃ t, t ≠ [] ∧ p.p = q ++ t
theorem hd_keep {ω ω' : Nat → Lab} {m m' : Mc} {p : Pl} {v : Value} (hr : ∀ v0, hdR m p.r = some v0 → hdR m' p.r = some v0)
    (hk : ∀ q, wayTo p p.r q → Stay ω ω' m.w m'.w (.at p.r q)) (h : hd ω m p v) : hd ω' m' p v := by
  obtain ⟨v0, h0, h1⟩ := h
  exact ⟨v0, hr v0 h0, onPath_keep p.p [] v0 v (fun q ht => hk q ⟨rfl, by simpa using ht⟩) h1⟩
theorem Carries.own {ω ω' : Nat → Lab} {w w' : World} {r r' : Root} {p p' : Path}
    (h : ∀ q b x, w.heap[b]? = some x → ω b = .at r (p ++ q) → w'.heap[b]? = some x ∧ ω' b = .at r' (p' ++ q)) : Carries w w' (Qown ω r p) (Qown ω' r' p') := by
  intro q ad m arr elem fz hh hq
  obtain ⟨h1, h2, h3⟩ := hq
  obtain ⟨hs, hl⟩ := h q ad.block _ hh h1
  exact ⟨hs, hl, h2, h3⟩
theorem Carries.ro {ω ω' : Nat → Lab} {w w' : World} (h : Stay ω ω' w w' .frame) : Carries w w' (Qro ω) (Qro ω') := by
  intro q ad m arr elem fz hh hq
  exact h ad.block _ hh hq
mutual
def Cell.keys : Cell → List Nat
  | .ptr k _ => [k]
  | .st cs => keysL cs
  | .fn _ fi ca => keysL fi ++ keysL ca
  | _ => []
def keysL : List Cell → List Nat
  | [] => []
  | c :: cs => c.keys ++ keysL cs
end
mutual
def Cell.places : Cell → List Pl
  | .al p => [p]
  | .eptr p _ => [p]
  | .st cs => placesL cs
  | .fn _ fi ca => placesL fi ++ placesL ca
  | _ => []
def placesL : List Cell → List Pl
  | [] => []
  | c :: cs => c.places ++ placesL cs
end
structure Keeps (ω ω' : Nat → Lab) (m m' : Mc) (keys : List Nat) (pls : List Pl) : Prop where
  ro : Stay ω ω' m.w m'.w .frame
  key : ∀ k ∈ keys, m'.rb k = m.rb k
  pl : ∀ p ∈ pls, (∀ v0, hdR m p.r = some v0 → hdR m' p.r = some v0) ∧
      (∀ q, wayTo p p.r q → Stay ω ω' m.w m'.w (.at p.r q))
theorem Keeps.sub {ω ω' : Nat → Lab} {m m' : Mc} {k k' : List Nat} {l l' : List Pl} (h : Keeps ω ω' m m' k l) (hk : ∀ x ∈ k', x ∈ k) (hl : ∀ x ∈ l', x ∈ l) :
    Keeps ω ω' m m' k' l' := ⟨h.ro, fun x hx => h.key x (hk x hx), fun p hp => h.pl p (hl p hp)⟩
mutual
theorem CRx.keep {ω ω' : Nat → Lab} {m m' : Mc} : ∀ (c : Cell) (r : Root) (v : Value), Keeps ω ω' m m' c.keys c.places →
    (c.isOwn = true → ∀ q, Stay ω ω' m.w m'.w (.at r q)) → CRx ω m c r v → CRx ω' m' c r v
  | .undef, _, _, _, _, _ => trivial
  | .int k n, _, _, _, _, hc => hc
  | .bool b, _, _, _, _, hc => hc
  | .str s, _, _, _, _, hc => hc
  | .own sz rows, r, v, _, hown, hc => rd_carry _ _ _ _ (Carries.own (fun q b x hx hb => by simpa using hown rfl q b x hx (by simpa using hb))) hc
  | .ro sz rows, r, v, hk, _, hc => rd_carry _ _ _ _ (Carries.ro hk.ro) hc
  | .rov u sz rows, r, v, hk, _, hc => ⟨hc.1, rd_carry _ _ _ _ (Carries.ro hk.ro) hc.2⟩
  | .al p, r, v, hk, _, hc => ⟨hd_keep (hk.pl p (by simp [Cell.places])).1 (hk.pl p (by simp [Cell.places])).2 hc.1, hc.2⟩
  | .ptr k o, r, v, hk, _, hc => by
    simp only [CRx, ptrV] at hc ⊢; rw [hk.key k (by simp [Cell.keys])]; exact hc
  | .eptr p o, r, v, hk, _, hc => by
    obtain ⟨ad, n, cap, h1, h2, h3⟩ := hc
    exact ⟨ad, n, cap, hd_keep (hk.pl p (by simp [Cell.places])).1 (hk.pl p (by simp [Cell.places])).2 h1, h2, h3⟩
  | .rptr ds, r, v, hk, _, hc => by
    obtain ⟨b, o, arr, elem, fz, h1, h2, h3, h4⟩ := hc
    obtain ⟨hs, hl⟩ := hk.ro b _ h2 h3
    exact ⟨b, o, arr, elem, fz, h1, hs, hl, rdCs_carry _ _ _ _ _ _ (Carries.ro hk.ro) h4⟩
  | .st cs, r, v, hk, _, hc => by
    obtain ⟨arr, h1, h2⟩ := hc
    exact ⟨arr, h1, CRl.keep cs r _ (hk.sub (fun _ h => by simpa [Cell.keys] using h) (fun _ h => by simpa [Cell.places] using h)) h2⟩
  | .fn f fi ca, r, v, hk, _, hc => by
    obtain ⟨fv, cv, h1, h2, h3⟩ := hc
    exact ⟨fv, cv, h1, CRl.keep fi r _ (hk.sub (fun _ h => by simp [Cell.keys, h]) (fun _ h => by simp [Cell.places, h])) h2,
      CRl.keep ca r _ (hk.sub (fun _ h => by simp [Cell.keys, h]) (fun _ h => by simp [Cell.places, h])) h3⟩
theorem CRl.keep {ω ω' : Nat → Lab} {m m' : Mc} : ∀ (cs : List Cell) (r : Root) (vs : List Value), Keeps ω ω' m m' (keysL cs) (placesL cs) →
    CRl ω m cs r vs → CRl ω' m' cs r vs
  | [], _, _, _, hc => hc
  | c :: cs, r, vs, hk, hc => by
    obtain ⟨v, rest, h1, h2, h3, h4⟩ := hc
    exact ⟨v, rest, h1, h2, CRx.keep c r v (hk.sub (fun _ h => by simp [keysL, h]) (fun _ h => by simp [placesL, h])) (fun e => by simp [h2] at e) h3,
      CRl.keep cs r rest (hk.sub (fun _ h => by simp [keysL, h]) (fun _ h => by simp [placesL, h])) h4⟩
end
theorem CR.keep {ω ω' : Nat → Lab} {m m' : Mc} {r : Root} {v : Value} {c : Cell} (hc : CR ω m r v c)
    (hro : Stay ω ω' m.w m'.w .frame)
    (hown : c.isOwn = true → ∀ q, Stay ω ω' m.w m'.w (.at r q))
    (hkey : ∀ k ∈ c.keys, m'.rb k = m.rb k)
    (hpl : ∀ p ∈ c.places, (∀ v0, hdR m p.r = some v0 → hdR m' p.r = some v0) ∧
      (∀ q, wayTo p p.r q → Stay ω ω' m.w m'.w (.at p.r q))) : CR ω' m' r v c :=
  CRx.keep c r v ⟨hro, hkey, hpl⟩ hown hc
theorem SVR.move {ω ω' : Nat → Lab} {m m' : Mc} {r : Nat → Root} {v : Value} {x : SV} {f : Cell → Bool} (h : SVR ω m r v x)
    (hc : ∀ i u c, x.get i = c → c ≠ .undef → f c = false → CR ω m (r i) u c → CR ω' m' (r i) u c) : SVR ω' m' r v (x.filt f) := by
  by_cases hs : x.sh = .no
  · exact SVR_no (x := x.filt f) hs
  · rw [SVR_iff hs] at h
    rw [SVR_iff (x := x.filt f) hs]
    refine ⟨h.1, ?_⟩
    have h2 := h.2
    rw [CRs_iff] at h2 ⊢
    refine ⟨by simpa [SV.filt] using h2.1, fun i u d hu hd => ?_⟩
    simp only [SV.filt, List.getElem?_map, Option.map_eq_some_iff] at hd
    obtain ⟨c, hcc, rfl⟩ := hd
    have hcr := h2.2 i u c hu hcc
    simp only [Nat.zero_add] at hcr ⊢
    unfold Cell.filt
    by_cases hf : f c = true
    · simp only [hf, if_true]; trivial
    · simp only [hf, if_false, Bool.false_eq_true]
      by_cases hu0 : c = .undef
      · subst hu0; trivial
      · refine hc i u c ?_ hu0 (by simpa using hf) hcr
        unfold SV.get; cases hx : x.sh <;> simp_all
theorem R.move {ω ω' : Nat → Lab} {m m' : Mc} {st : St} (f : Cell → Bool) (h : R ω m st)
    (hT : ∀ s, m'.T.getD s undef = m.T.getD s undef ∨ (look st.sl s).sh = .no) (hG : m'.G = m.G)
    (hc : ∀ r v c, rootCell st r = c → c ≠ .undef → f c = false → CR ω m r v c → CR ω' m' r v c)
    (hrf : ∀ k, (lookR st.rf k).isSome → m'.rb k = m.rb k ∧ (∀ arr elem, ω (m.rb k) = .blk k → m.w.heap[m.rb k]? = some (.cells arr elem (0, 0)) →
      m'.w.heap[m.rb k]? = some (.cells arr elem (0, 0)) ∧ ω' (m.rb k) = .blk k)) : R ω' m' (st.filt f) := by
  refine ⟨fun s => ?_, fun i => ?_, fun k cs hcs => ?_⟩
  · simp only [St.filt, look_mapS (SV.filt f) rfl]
    rcases hT s with hT | hT
    · rw [hT]; exact (h.sl s).move (fun i u c hg hne hf hcr => hc (.slot s i) u c hg hne hf hcr)
    · exact SVR_no (by simpa [SV.filt] using hT)
  · simp only [St.filt, look_mapS (SV.filt f) rfl, hG]
    exact (h.gh i).move (fun j u c hg hne hf hcr => hc (.gho i j) u c hg hne hf hcr)
  · simp only [St.filt, lookR_mapR, Option.map_eq_some_iff] at hcs
    obtain ⟨cs', hcs', rfl⟩ := hcs
    obtain ⟨arr, elem, h1, h2, h3⟩ := h.rf k cs' hcs'
    obtain ⟨hb, hx⟩ := hrf k (by simp [hcs'])
    obtain ⟨h4, h5⟩ := hx arr elem h2 h1
    rw [hb]
    refine ⟨arr, elem, h4, h5, ?_⟩
    rw [CRs_iff] at h3 ⊢
    refine ⟨by simpa using h3.1, fun i u d hu hd => ?_⟩
    simp only [List.getElem?_map, Option.map_eq_some_iff] at hd
    obtain ⟨c, hcc, rfl⟩ := hd
    have hcr := h3.2 i u c hu hcc
    simp only [Nat.zero_add] at hcr ⊢
    unfold Cell.filt
    by_cases hf : f c = true
    · simp only [hf, if_true]; trivial
    · simp only [hf, if_false, Bool.false_eq_true]
      by_cases hu0 : c = .undef
      · subst hu0; trivial
      · exact hc (.ref k i) u c (by simp [rootCell, hcs', hcc]) hu0 (by simpa using hf) hcr
def AlOk (st : St) : Prop := ∀ r p, p ∈ (rootCell st r).places → (rootCell st p.r).isOwn = true
structure RR (ω : Nat → Lab) (m : Mc) (st : St) : Prop where
  r : R ω m st
  al : AlOk st
theorem SV.get_filt (f : Cell → Bool) (v : SV) (c : Nat) : (v.filt f).get c = (v.get c).filt f := by
  unfold SV.get SV.filt
  cases v.sh <;> simp only [List.getElem?_map] <;> (try (cases v.cs[c]? <;> simp [Cell.filt])) <;> simp [Cell.filt]
theorem rootCell_filt (f : Cell → Bool) (st : St) (r : Root) : rootCell (st.filt f) r = (rootCell st r).filt f := by
  cases r with
  | slot s c => simp only [rootCell, St.filt, look_mapS (SV.filt f) rfl, SV.get_filt]
  | gho s c => simp only [rootCell, St.filt, look_mapS (SV.filt f) rfl, SV.get_filt]
  | ref k c =>
    simp only [rootCell, St.filt, lookR_mapR]
    cases lookR st.rf k with
    | none => simp [Cell.filt]
    | some cs => simp only [Option.map_some, List.getElem?_map]; cases cs[c]? <;> simp [Cell.filt]
  | res c => unfold rootCell Cell.filt; by_cases h : f .undef = true <;> simp [h]
def SV.has (v : SV) (c : Nat) : Bool := (match v.sh with | .no => false | _ => true) && decide (c < v.cs.length)
theorem SV.get_set (v : SV) (c d : Nat) (x : Cell) : (v.set c x).get d = if c = d ∧ v.has d = true then x else v.get d := by
  unfold SV.get SV.set SV.has
  by_cases h : c = d
  · subst h
    by_cases h2 : c < v.cs.length <;> cases hs : v.sh <;> simp [List.getElem?_set, h2]
  · cases hs : v.sh <;> simp only [List.getElem?_set] <;> simp [h]
def hasRoot (st : St) : Root → Bool
  | .slot s c => (look st.sl s).has c
  | .gho s c => (look st.gh s).has c
  | .ref k c => match lookR st.rf k with
    | some cs => decide (c < cs.length)
    | none => false
  | .res _ => false
theorem rootCell_setRoot (st : St) (r r' : Root) (x : Cell) : rootCell (setRoot st r x) r' = if r = r' ∧ hasRoot st r = true then x else rootCell st r' := by
  cases r with
  | slot s c =>
    cases r' with
    | slot s' c' =>
      simp only [rootCell, setRoot, look_updS st.sl s _ s' (SV.set_undef c x), Root.slot.injEq]
      by_cases hs : s = s'
      · subst hs
        simp only [if_true, SV.get_set, hasRoot, true_and]
        by_cases hc : c = c'
        · subst hc; rfl
        · simp [hc]
      · simp [hs]
    | gho _ _ => simp [rootCell, setRoot]
    | ref _ _ => simp [rootCell, setRoot]
    | res _ => simp [rootCell, setRoot]
  | gho s c =>
    cases r' with
    | gho s' c' =>
      simp only [rootCell, setRoot, look_updS st.gh s _ s' (SV.set_undef c x), Root.gho.injEq]
      by_cases hs : s = s'
      · subst hs
        simp only [if_true, SV.get_set, hasRoot, true_and]
        by_cases hc : c = c'
        · subst hc; rfl
        · simp [hc]
      · simp [hs]
    | slot _ _ => simp [rootCell, setRoot]
    | ref _ _ => simp [rootCell, setRoot]
    | res _ => simp [rootCell, setRoot]
  | ref k c =>
    cases r' with
    | ref k' c' =>
      simp only [rootCell, setRoot, lookR_updR, Root.ref.injEq]
      by_cases hs : k = k'
      · subst hs
        simp only [if_true, hasRoot, true_and]
        cases hl : lookR st.rf k with
        | none => simp
        | some cs =>
          simp only [Option.map_some, List.getElem?_set]
          by_cases hc : c = c'
          · subst hc; by_cases h2 : c < cs.length <;> simp [h2]
          · simp [hc]
      · simp [hs]
    | slot _ _ => simp [rootCell, setRoot]
    | gho _ _ => simp [rootCell, setRoot]
    | res _ => simp [rootCell, setRoot]
  | res c => simp [setRoot, hasRoot]
theorem SV.has_of_get {v : SV} {c : Nat} (h : v.get c ≠ .undef) : v.has c = true := by
  unfold SV.get at h; unfold SV.has
  cases hs : v.sh <;> simp only [hs] at h ⊢ <;> first | (exact absurd rfl h) | (
      cases hg : v.cs[c]? with
      | none => simp [hg] at h
      | some d => simpa using (List.getElem?_eq_some_iff.1 hg).1)
theorem hasRoot_of_cell {st : St} {r : Root} (h : rootCell st r ≠ .undef) : hasRoot st r = true := by
  cases r with
  | slot s c => exact SV.has_of_get h
  | gho s c => exact SV.has_of_get h
  | ref k c =>
    simp only [rootCell] at h
    simp only [hasRoot]
    cases hl : lookR st.rf k with
    | none => simp [hl] at h
    | some cs =>
      simp only [hl] at h ⊢
      cases hg : cs[c]? with
      | none => simp [hg] at h
      | some d => simpa using (List.getElem?_eq_some_iff.1 hg).1
  | res c => exact absurd rfl h
def hitR (r : Root) (c : Cell) : Bool := c.places.any fun p => decide (p.r = r)
def Root.isSlot (d : Nat) : Root → Bool
  | .slot s _ => s == d
  | _ => false
def hitS (d : Nat) (c : Cell) : Bool := c.places.any fun p => p.r.isSlot d
def SV.owns (v : SV) : Bool := match v.sh with
  | .no => false
  | _ => v.cs.any Cell.isOwn
theorem SV.owns_get {v : SV} {c : Nat} (h : (v.get c).isOwn = true) : v.owns = true := by
  unfold SV.get at h; unfold SV.owns
  cases hs : v.sh <;> simp only [hs] at h ⊢ <;> first | (simp [Cell.isOwn] at h; done) | (
    cases hg : v.cs[c]? with
    | none => simp [hg, Cell.isOwn] at h
    | some d => simp only [hg, Option.getD_some] at h; exact List.any_eq_true.2 ⟨d, List.mem_of_getElem? hg, h⟩)
def putSlot (st : St) (d : Nat) (v : SV) : St :=
  if (look st.sl d).owns then { (st.filt (hitS d)) with sl := putS (st.filt (hitS d)).sl d (v.filt (hitS d)) }
  else { st with sl := putS st.sl d v }
def SV.alOk (st : St) (v : SV) : Prop := ∀ c p, p ∈ (v.get c).places → (rootCell st p.r).isOwn = true
theorem Cell.filt_place {f : Cell → Bool} {c : Cell} {p : Pl} (h : p ∈ (c.filt f).places) : f c = false ∧ p ∈ c.places := by
  unfold Cell.filt at h
  by_cases hf : f c = true
  · simp [hf, Cell.places] at h
  · simp only [hf, if_false, Bool.false_eq_true] at h; exact ⟨by simpa using hf, h⟩
theorem Cell.own_places {c : Cell} (h : c.isOwn = true) : c.places = [] := by cases c <;> simp_all [Cell.places, Cell.isOwn]
theorem hitS_own {d : Nat} {c : Cell} (h : c.isOwn = true) : hitS d c = false := by simp [hitS, Cell.own_places h]
theorem hitR_own {r : Root} {c : Cell} (h : c.isOwn = true) : hitR r c = false := by simp [hitR, Cell.own_places h]
theorem hitS_not {d : Nat} {c : Cell} (h : hitS d c = false) {p : Pl} (hp : p ∈ c.places) (i : Nat) : p.r ≠ .slot d i := by
  intro e
  simp only [hitS, List.any_eq_false] at h
  exact h p hp (by simp [e, Root.isSlot])
theorem hitR_not {r : Root} {c : Cell} (h : hitR r c = false) {p : Pl} (hp : p ∈ c.places) : p.r ≠ r := by
  intro e
  simp only [hitR, List.any_eq_false] at h
  exact h p hp (by simp [e])
theorem Cell.filt_own {f : Cell → Bool} {c : Cell} (h : c.isOwn = true) (hf : f c = false) : (c.filt f).isOwn = true := by simp [Cell.filt, hf, h]
theorem Cell.own_of_filt {f : Cell → Bool} {c : Cell} (h : (c.filt f).isOwn = true) : c.isOwn = true := by
  unfold Cell.filt at h; by_cases hf : f c = true
  · simp [hf, Cell.isOwn] at h
  · simpa [hf] using h
theorem AlOk.filt {st : St} (h : AlOk st) {f : Cell → Bool} (hf : ∀ c, c.isOwn = true → f c = false) : AlOk (st.filt f) := by
  intro r p hp
  rw [rootCell_filt] at hp ⊢
  obtain ⟨_, h2⟩ := Cell.filt_place hp
  have := h r p h2
  exact Cell.filt_own this (hf _ this)
theorem R.sameW {ω : Nat → Lab} {m m' : Mc} {st : St} (f : Cell → Bool) (h : R ω m st) (hw : m'.w = m.w) (hG : m'.G = m.G) (hrb : m'.rb = m.rb)
    (hT : ∀ s, m'.T.getD s undef = m.T.getD s undef ∨ (look st.sl s).sh = .no)
    (hpl : ∀ r p, p ∈ (rootCell st r).places → f (rootCell st r) = false → hdR m' p.r = hdR m p.r) : R ω m' (st.filt f) := by
  refine h.move f hT hG (fun r v c hc hne hf hcr => ?_) (fun k hk => ?_)
  · exact hcr.keep (by rw [hw]; exact Stay.refl _ _ _) (fun _ q => by rw [hw]; exact Stay.refl _ _ _) (fun k _ => by rw [hrb])
      (fun p hp => ⟨fun v0 h0 => by rw [hpl r p (by rw [hc]; exact hp) (by rw [hc]; exact hf)]; exact h0, fun q _ => by rw [hw]; exact Stay.refl _ _ _⟩)
  · exact ⟨by rw [hrb], fun arr elem h1 h2 => ⟨by rw [hw]; exact h2, h1⟩⟩
theorem getD_setIfInBounds {T : Array Value} {d s : Nat} {v : Value} (hd : d < T.size) :
    (T.setIfInBounds d v).getD s undef = if d = s then v else T.getD s undef := by
  simp only [Array.getD_eq_getD_getElem?, Array.getElem?_setIfInBounds]
  by_cases h : d = s
  · subst h; simp [hd]
  · simp [h]
theorem map_filt_false : ∀ l : List Cell, l.map (Cell.filt fun _ => false) = l
  | [] => rfl
  | a :: l => by rw [List.map_cons, map_filt_false l]; simp [Cell.filt]
theorem SV.filt_false (v : SV) : v.filt (fun _ => false) = v := by cases v; simp only [SV.filt, map_filt_false]
theorem St.filt_false (st : St) : st.filt (fun _ => false) = st := by
  have h1 : SV.filt (fun _ => false) = id := funext SV.filt_false
  have h2 : (fun cs : List Cell => cs.map (Cell.filt fun _ => false)) = id := funext map_filt_false
  cases st
  simp only [St.filt, h1, h2, mapS, mapR]
  simp
theorem RR.put {ω : Nat → Lab} {m : Mc} {st : St} (h : RR ω m st) {d : Nat} {v : Value} {x : SV} (hd : d < m.T.size)
    (hx : SVR ω m (.slot d) v x) (hal : x.alOk st) : RR ω { m with T := m.T.setIfInBounds d v } (putSlot st d x) := by
  -- forget the old slot first
  have key : ∀ (f : Cell → Bool), (∀ c, c.isOwn = true → f c = false) → (∀ r p, p ∈ (rootCell st r).places → f (rootCell st r) = false → ∀ c, p.r ≠ .slot d c) →
      (∀ c p, p ∈ (x.get c).places → f (x.get c) = false → ∀ i, p.r ≠ .slot d i) →
      RR ω { m with T := m.T.setIfInBounds d v } { (st.filt f) with sl := putS (st.filt f).sl d (x.filt f) } := by
    intro f hown hst hxx
    have hdr : ∀ p : Pl, (∀ c, p.r ≠ .slot d c) → hdR { m with T := m.T.setIfInBounds d v } p.r = hdR m p.r := by
      intro p hp
      cases hr : p.r with
      | slot s c =>
        have hne : d ≠ s := fun e => hp c (by rw [hr, e])
        simp only [hdR, getD_setIfInBounds hd, hne, if_false]
      | gho _ _ => rfl
      | ref _ _ => rfl
      | res _ => rfl
    have h1 : R ω { m with T := m.T.setIfInBounds d v } ({ st with sl := delS st.sl d }.filt f) := by
      have h0 : R ω m { st with sl := delS st.sl d } := by
        refine ⟨fun s => ?_, h.r.gh, h.r.rf⟩
        simp only [look_delS]
        by_cases hs : d = s
        · simp only [hs, if_true]; exact SVR_no rfl
        · simp only [hs, if_false]; exact h.r.sl s
      refine h0.sameW f rfl rfl rfl (fun s => ?_) (fun r p hp hf => hdr p ?_)
      · simp only [getD_setIfInBounds hd, look_delS]
        by_cases hs : d = s
        · right; simp [hs]
        · left; simp [hs]
      · cases r with
        | slot s c =>
          simp only [rootCell, look_delS] at hp hf
          by_cases hs : d = s
          · simp [hs, SV.get, Cell.places] at hp
          · simp only [hs, if_false] at hp hf; exact hst (.slot s c) p hp hf
        | gho s c => exact hst (.gho s c) p hp hf
        | ref s c => exact hst (.ref s c) p hp hf
        | res c => simp [rootCell, Cell.places] at hp
    have hxv : SVR ω { m with T := m.T.setIfInBounds d v } (.slot d) v (x.filt f) := by
      refine hx.move (f := f) (fun i u c hg hne hf hcr => hcr.keep (Stay.refl _ _ _) (fun _ q => Stay.refl _ _ _) (fun _ _ => rfl) (fun p hp => ⟨fun v0 h0 => ?_, fun q _ => Stay.refl _ _ _⟩))
      rw [hdr p (hxx i p (by rw [hg]; exact hp) (by rw [hg]; exact hf))]; exact h0
    refine ⟨⟨fun s => ?_, fun i => ?_, fun k cs hcs => ?_⟩, ?_⟩
    · simp only [St.filt, look_putS, getD_setIfInBounds hd]
      by_cases hs : d = s
      · simp only [hs, if_true]; subst hs; exact hxv
      · simp only [hs, if_false]
        have := h1.sl s
        simp only [St.filt, look_mapS (SV.filt f) rfl, look_delS, hs, if_false, getD_setIfInBounds hd] at this
        simpa only [look_mapS (SV.filt f) rfl] using this
    · have := h1.gh i; simpa only [St.filt] using this
    · exact h1.rf k cs hcs
    · intro r p hp
      have hroot : ∀ q : Root, (∀ c, q ≠ .slot d c) → rootCell { (st.filt f) with sl := putS (st.filt f).sl d (x.filt f) } q = (rootCell st q).filt f := by
        intro q hq
        rw [← rootCell_filt]
        cases q with
        | slot s c =>
          have hne : d ≠ s := fun e => hq c (by rw [e])
          simp only [rootCell, look_putS, hne, if_false]
        | gho _ _ => rfl
        | ref _ _ => rfl
        | res _ => rfl
      have fin : ∀ c : Cell, f c = false → p ∈ c.places → (rootCell st p.r).isOwn = true → (∀ i, p.r ≠ .slot d i) →
          (rootCell { (st.filt f) with sl := putS (st.filt f).sl d (x.filt f) } p.r).isOwn = true := by
        intro c _ _ ho hp'
        rw [hroot p.r hp']
        exact Cell.filt_own ho (hown _ ho)
      by_cases hr : ∃ c, r = .slot d c
      · obtain ⟨c, rfl⟩ := hr
        simp only [rootCell, look_putS, if_true, SV.get_filt] at hp
        obtain ⟨hf, hpl⟩ := Cell.filt_place hp
        exact fin _ hf hpl (hal c p hpl) (hxx c p hpl hf)
      · have hr' : ∀ c, r ≠ .slot d c := fun c e => hr ⟨c, e⟩
        rw [hroot r hr'] at hp
        obtain ⟨hf, hpl⟩ := Cell.filt_place hp
        exact fin _ hf hpl (h.al r p hpl) (hst r p hpl hf)
  unfold putSlot
  by_cases ho : (look st.sl d).owns = true
  · rw [if_pos ho]
    refine key (hitS d) (fun c hc => hitS_own hc) (fun r p hp hf c e => ?_) (fun c p hp hf i e => ?_)
    · exact hitS_not hf hp c e
    · exact hitS_not hf hp i e
  · rw [if_neg ho]
    have hno : ∀ i, (rootCell st (.slot d i)).isOwn = false := by
      intro i
      cases hi : (rootCell st (.slot d i)).isOwn with
      | false => rfl
      | true => exact absurd (SV.owns_get (c := i) hi) ho
    have := key (fun _ => false) (fun _ _ => rfl) (fun r p hp _ c e => ?_) (fun c p hp _ i e => ?_)
    · simp only [St.filt_false] at this
      have hx2 := SV.filt_false x
      rw [hx2] at this
      exact this
    · have := h.al r p hp; rw [e, hno c] at this; exact absurd this (by simp)
    · have := hal c p hp; rw [e, hno i] at this; exact absurd this (by simp)
inductive XO where
  | s (t : Nat)
  | c (x : SV)
def Cell.copy (r : Root) : Cell → Cell
  | .own _ _ => .al ⟨r, []⟩
  | .rov _ sz rows => .ro sz rows
  | c => c
def copyCs (r : Nat → Root) : Nat → List Cell → List Cell
  | _, [] => []
  | j, c :: cs => c.copy (r j) :: copyCs r (j + 1) cs
def SV.copy (r : Nat → Root) (v : SV) : SV := ⟨v.sh, copyCs r 0 v.cs⟩
def evX (st : St) : XO → SV
  | .s t => (look st.sl t).copy (.slot t)
  | .c x => x
def constC : Value → Cell → Bool
  | .int k n, .int k' n' => decide (k = k') && decide (n = n')
  | .bool b, .bool b' => b == b'
  | .string s, .str s' => decide (s = s')
  | .slice none 0 0, .own _ [] => true
  | .slice none 0 0, .ro _ [] => true
  | .func (.func f) fi ca, .fn (.func f') [] [] => decide (f = f') && fi.isEmpty && ca.isEmpty
  | _, .undef => true
  | _, _ => false
def constCs : List Value → List Cell → Bool
  | [], [] => true
  | v :: vs, c :: cs => constC v c && constCs vs cs
  | _, _ => false
def constV (v : Value) (x : SV) : Bool :=
  match x.sh with
  | .no => true
  | .one => Value.single v && constCs [v] x.cs
  | .agg => match v with
    | .agg arr => constCs arr.toList x.cs
    | _ => false
  | .tup _ => false
def mO : Operand → XO → Bool
  | .tmp t, .s t' => t == t'
  | .const v, .c x => constV v x
  | .func f, .c x => constV (.func (.func f) #[] #[]) x
  | _, _ => false
section
variable {ω : Nat → Lab} {m : Mc} {st : St}
theorem constC_sound {v : Value} {c : Cell} (h : constC v c = true) (r : Root) : CR ω m r v c := by
  unfold constC at h
  split at h
  · simp only [Bool.and_eq_true, decide_eq_true_eq] at h; obtain ⟨rfl, rfl⟩ := h; rfl
  · simp only [beq_iff_eq] at h; subst h; rfl
  · simp only [decide_eq_true_eq] at h; subst h; rfl
  · exact ⟨none, 0, rfl, Nat.le_refl _, by simp, .inl rfl⟩
  · exact ⟨none, 0, rfl, Nat.le_refl _, by simp, .inl rfl⟩
  · rename_i f fi ca f'
    simp only [Bool.and_eq_true, decide_eq_true_eq, Array.isEmpty_iff] at h
    obtain ⟨⟨rfl, rfl⟩, rfl⟩ := h
    exact ⟨#[], #[], rfl, rfl, rfl⟩
  · trivial
  · simp at h
theorem constCs_sound {r : Nat → Root} : ∀ {vs : List Value} {cs : List Cell} (j : Nat), constCs vs cs = true → CRs ω m r j vs cs
  | [], [], _, _ => trivial
  | v :: vs, c :: cs, j, h => by
    simp only [constCs, Bool.and_eq_true] at h
    exact ⟨constC_sound h.1 _, constCs_sound (j + 1) h.2⟩
  | [], _ :: _, _, h => by simp [constCs] at h
  | _ :: _, [], _, h => by simp [constCs] at h
theorem flatV_single {v : Value} (h : Value.single v = true) : flatV v = [v] := by cases v <;> simp_all [Value.single, flatV]
theorem constV_sound {v : Value} {x : SV} (h : constV v x = true) (r : Nat → Root) : SVR ω m r v x := by
  unfold constV at h
  cases hs : x.sh with
  | no => exact SVR_no hs
  | one =>
    simp only [hs, Bool.and_eq_true] at h
    rw [SVR_iff (by simp [hs]), hs, flatV_single h.1]
    exact ⟨h.1, constCs_sound 0 h.2⟩
  | agg =>
    simp only [hs] at h
    cases v <;> simp at h
    rename_i arr
    rw [SVR_iff (by simp [hs]), hs]
    exact ⟨⟨arr, rfl⟩, constCs_sound 0 h⟩
  | tup l => simp [hs] at h
theorem constCs_places : ∀ {vs : List Value} {cs : List Cell}, constCs vs cs = true → ∀ c ∈ cs, c.places = []
  | [], [], _, _, h => by simp at h
  | v :: vs, c :: cs, h, d, hd => by
    simp only [constCs, Bool.and_eq_true] at h
    rcases List.mem_cons.1 hd with rfl | hd
    · have h1 := h.1
      unfold constC at h1
      split at h1 <;> first | (simp at h1; done) | simp [Cell.places, placesL]
    · exact constCs_places h.2 d hd
  | [], _ :: _, h, _, _ => by simp [constCs] at h
  | _ :: _, [], h, _, _ => by simp [constCs] at h
theorem SV.get_mem {v : SV} {c : Nat} (h : v.get c ≠ .undef) : v.get c ∈ v.cs := by
  unfold SV.get at h ⊢
  cases hs : v.sh <;> simp only [hs] at h ⊢ <;> first | (exact absurd rfl h) | (
      cases hg : v.cs[c]? with
      | none => simp [hg] at h
      | some d => simpa using List.mem_of_getElem? hg)
theorem SV.alOk_of {x : SV} (h : ∀ c ∈ x.cs, ∀ p ∈ c.places, (rootCell st p.r).isOwn = true) : x.alOk st := by
  intro c p hp
  by_cases hu : x.get c = .undef
  · rw [hu] at hp; simp [Cell.places] at hp
  · exact h _ (SV.get_mem hu) p hp
theorem constV_alOk {v : Value} {x : SV} (h : constV v x = true) : x.alOk st := by
  by_cases hs : x.sh = .no
  · intro c p hp; simp [SV.get, hs, Cell.places] at hp
  refine SV.alOk_of fun c hc p hp => ?_
  unfold constV at h
  cases hx : x.sh with
  | no => exact absurd hx hs
  | one =>
    simp only [hx, Bool.and_eq_true] at h
    rw [constCs_places h.2 c hc] at hp; simp at hp
  | agg =>
    simp only [hx] at h
    cases v <;> simp at h
    rw [constCs_places h c hc] at hp; simp at hp
  | tup l => simp [hx] at h
theorem copyCs_get (r : Nat → Root) : ∀ (cs : List Cell) (j i : Nat), (copyCs r j cs)[i]? = (cs[i]?).map (Cell.copy (r (j + i)))
  | [], j, i => by simp [copyCs]
  | c :: cs, j, i => by
    cases i with
    | zero => simp [copyCs]
    | succ i => simp only [copyCs, List.getElem?_cons_succ, copyCs_get r cs (j + 1) i]; rw [show j + 1 + i = j + (i + 1) by omega]
theorem copyCs_length (r : Nat → Root) : ∀ (cs : List Cell) (j : Nat), (copyCs r j cs).length = cs.length
  | [], j => rfl
  | c :: cs, j => by simp [copyCs, copyCs_length r cs (j + 1)]
theorem Cell.copy_own (r : Root) (c : Cell) : (c.copy r).isOwn = false := by cases c <;> rfl
mutual
theorem CRx_root {ω : Nat → Lab} {m : Mc} : ∀ (c : Cell) (r r' : Root) (v : Value), c.isOwn = false → CRx ω m c r v → CRx ω m c r' v
  | .undef, _, _, _, _, _ => trivial
  | .int k n, _, _, _, _, hc => hc
  | .bool b, _, _, _, _, hc => hc
  | .str s, _, _, _, _, hc => hc
  | .own sz rows, _, _, _, h, _ => by simp [Cell.isOwn] at h
  | .ro sz rows, _, _, _, _, hc => hc
  | .rov _ sz rows, _, _, _, _, hc => hc
  | .al p, _, _, _, _, hc => hc
  | .ptr k o, _, _, _, _, hc => hc
  | .eptr p o, _, _, _, _, hc => hc
  | .rptr ds, _, _, _, _, hc => hc
  | .st cs, r, r', v, _, hc => by
    obtain ⟨arr, h1, h2⟩ := hc
    exact ⟨arr, h1, CRl_root cs r r' _ h2⟩
  | .fn f fi ca, r, r', v, _, hc => by
    obtain ⟨fv, cv, h1, h2, h3⟩ := hc
    exact ⟨fv, cv, h1, CRl_root fi r r' _ h2, CRl_root ca r r' _ h3⟩
theorem CRl_root {ω : Nat → Lab} {m : Mc} : ∀ (cs : List Cell) (r r' : Root) (vs : List Value), CRl ω m cs r vs → CRl ω m cs r' vs
  | [], _, _, _, hc => hc
  | c :: cs, r, r', vs, hc => by
    obtain ⟨v, rest, h1, h2, h3, h4⟩ := hc
    exact ⟨v, rest, h1, h2, CRx_root c r r' v h2 h3, CRl_root cs r r' rest h4⟩
end
theorem CR_anyroot {r r' : Root} {v : Value} {c : Cell} (ho : c.isOwn = false) (h : CR ω m r v c) : CR ω m r' v c := CRx_root c r r' v ho h
theorem CR_copy {r r' : Root} {v : Value} {c : Cell} (hv : hdR m r = some v) (h : CR ω m r v c) : CR ω m r' v (c.copy r) := by
  by_cases ho : c.isOwn = true
  · cases c <;> simp [Cell.isOwn] at ho
    exact ⟨⟨v, hv, rfl⟩, by obtain ⟨a, cap, rfl, _⟩ := h; rfl⟩
  · cases c with
    | own _ _ => simp [Cell.isOwn] at ho
    | rov u sz rows => obtain ⟨rfl, h2⟩ := h; exact h2
    | _ => exact CR_anyroot rfl h
theorem SVR_copy {r r' : Nat → Root} {v : Value} {x : SV} (hv : ∀ i u, (flatV v)[i]? = some u → hdR m (r i) = some u) (h : SVR ω m r v x) : SVR ω m r' v (x.copy r) := by
  by_cases hs : x.sh = .no
  · exact SVR_no (x := x.copy r) hs
  · rw [SVR_iff hs, CRs_iff] at h
    rw [SVR_iff (x := x.copy r) hs, CRs_iff]
    refine ⟨h.1, by simpa [SV.copy, copyCs_length] using h.2.1, fun i u d hu hd => ?_⟩
    simp only [SV.copy, copyCs_get, Option.map_eq_some_iff, Nat.zero_add] at hd
    obtain ⟨c, hc, rfl⟩ := hd
    have := h.2.2 i u c hu hc
    simp only [Nat.zero_add] at this ⊢
    exact CR_copy (hv i u hu) this
theorem SV.get_copy (r : Nat → Root) (v : SV) (c : Nat) : (v.copy r).get c = (v.get c).copy (r c) := by
  unfold SV.get SV.copy
  cases v.sh <;> simp only [copyCs_get, Nat.zero_add] <;> first | rfl | (cases v.cs[c]? <;> rfl)
theorem Cell.copy_places {r : Root} {c : Cell} {p : Pl} (h : p ∈ (c.copy r).places) : (c.isOwn = true ∧ p.r = r) ∨ p ∈ c.places := by
  cases c <;> simp_all [Cell.copy, Cell.places, Cell.isOwn]
theorem evX_sound {a : Act} {o : Operand} {x : XO} (h : RR ω m st) (ha : a.tmps = m.T) (ho : mO o x = true) (r : Nat → Root) :
    SVR ω m r (a.eval o) (evX st x) := by
  unfold mO at ho
  split at ho
  · rename_i t t'
    simp only [beq_iff_eq] at ho; subst ho
    simp only [Act.eval, evX, ha]
    exact SVR_copy (fun i u hu => hu) (h.r.sl t)
  · exact constV_sound ho r
  · exact constV_sound ho r
  · simp at ho
theorem evX_alOk {o : Operand} {x : XO} (h : RR ω m st) (ho : mO o x = true) : (evX st x).alOk st := by
  unfold mO at ho
  split at ho
  · rename_i t t'
    intro c p hp
    simp only [evX, SV.get_copy] at hp
    rcases Cell.copy_places hp with ⟨h1, h2⟩ | h1
    · rw [h2]; exact h1
    · exact h.al (.slot _ c) p h1
  · exact constV_alOk ho
  · exact constV_alOk ho
  · simp at ho
theorem CR_hd {r : Root} {v : Value} {p : Pl} (h : CR ω m r v (.al p)) : hd ω m p v := h.1
def Cell.plain : Cell → Bool
  | .undef => false
  | .st _ => false
  | _ => true
theorem CR_single {r : Root} {v : Value} {c : Cell} (h : CR ω m r v c) (hc : c.plain = true) : Value.single v = true := by
  cases c with
  | undef => simp [Cell.plain] at hc
  | st _ => simp [Cell.plain] at hc
  | int k n => rw [h]; rfl
  | bool b => rw [h]; rfl
  | str s => rw [h]; rfl
  | own sz rows => obtain ⟨a, cap, rfl, _⟩ := h; rfl
  | ro sz rows => obtain ⟨a, cap, rfl, _⟩ := h; rfl
  | rov u sz rows => obtain ⟨rfl, a, cap, e, _⟩ := h; rw [e]; rfl
  | al p => exact h.2
  | ptr k o => rw [h]; rfl
  | eptr p o => obtain ⟨_, _, _, _, _, rfl⟩ := h; rfl
  | rptr ds => obtain ⟨_, _, _, _, _, rfl, _⟩ := h; rfl
  | fn f fi ca => obtain ⟨_, _, rfl, _⟩ := h; rfl
def SV.c1 (v : SV) : Cell := match v.sh, v.cs with
  | .one, [c] => c
  | _, _ => .undef
theorem SVR_c1 {r : Nat → Root} {v : Value} {x : SV} (h : SVR ω m r v x) (hne : x.c1 ≠ .undef) : Value.single v = true ∧ CR ω m (r 0) v x.c1 := by
  obtain ⟨sh, cs⟩ := x
  unfold SV.c1 at hne ⊢
  cases sh with
  | one =>
    cases cs with
    | nil => exact absurd rfl hne
    | cons c cs =>
      cases cs with
      | cons _ _ => exact absurd rfl hne
      | nil =>
        obtain ⟨h1, h2⟩ := h
        simp only [shOk] at h1
        rw [flatV_single h1] at h2
        exact ⟨h1, h2.1⟩
  | _ => exact absurd rfl hne
theorem SVR_one {r : Nat → Root} {v : Value} {c : Cell} (h1 : Value.single v = true) (h2 : CR ω m (r 0) v c) : SVR ω m r v ⟨.one, [c]⟩ :=
  ⟨h1, by rw [flatV_single h1]; exact ⟨h2, trivial⟩⟩
def cellAt (sz : Nat) (rows : List (List D)) (o : Nat) : Option D := (rows[o / sz]?).bind fun r => r[o % sz]?
def pathRows : Nat → List (List D) → Path → Option (Nat × List (List D))
  | sz, rows, [] => some (sz, rows)
  | sz, rows, o :: p => match cellAt sz rows o with
    | some (.lst sz' rows') => pathRows sz' rows' p
    | _ => none
def rowsAt (st : St) (p : Pl) : Option (Nat × List (List D)) := match rootCell st p.r with
  | .own sz rows => pathRows sz rows p.p
  | _ => none
theorem flatten_get {sz : Nat} : ∀ (rows : List (List D)) (i c : Nat), (∀ r ∈ rows, r.length = sz) → c < sz → rows.flatten[i * sz + c]? = (rows[i]?).bind fun r => r[c]?
  | [], i, c, _, _ => by simp
  | r :: rs, i, c, h, hc => by
    have hr : r.length = sz := h r (by simp)
    cases i with
    | zero => simp only [List.flatten_cons, Nat.zero_mul, Nat.zero_add, List.getElem?_cons_zero, Option.bind_some]; rw [List.getElem?_append_left (by omega)]
    | succ i =>
      simp only [List.flatten_cons, List.getElem?_cons_succ]
      rw [List.getElem?_append_right (by rw [hr, Nat.add_mul]; omega), hr, show (i + 1) * sz + c - sz = i * sz + c by rw [Nat.add_mul]; omega]
      exact flatten_get rs i c (fun x hx => h x (by simp [hx])) hc
theorem cellAt_flat {sz : Nat} {rows : List (List D)} {o : Nat} {d : D} (hr : ∀ r ∈ rows, r.length = sz) (h : cellAt sz rows o = some d) : rows.flatten[o]? = some d := by
  unfold cellAt at h
  rw [Option.bind_eq_some_iff] at h
  obtain ⟨r, h1, h2⟩ := h
  have hlen := hr r (List.mem_of_getElem? h1)
  have hlt : o % sz < r.length := (List.getElem?_eq_some_iff.1 h2).1
  have := flatten_get (sz := sz) rows (o / sz) (o % sz) hr (by omega)
  rw [show o / sz * sz + o % sz = o by rw [Nat.mul_comm]; exact Nat.div_add_mod o sz] at this
  rw [this, h1]; exact h2
theorem rd_lst {w : World} {sz : Nat} {rows : List (List D)} {Q : BP} {v : Value} (h : rd w (.lst sz rows) Q v) {o : Nat} {d : D} (hd : cellAt sz rows o = some d) :
    ∃ ad n cap arr elem fz u, v = .slice (some ad) n cap ∧ ad.spot = none ∧ w.heap[ad.block]? = some (.cells arr elem fz) ∧ Q [] ad (cap * sz) arr fz ∧ arr[ad.off + o]? = some u ∧
      rd w d (fun q => Q (o :: q)) u := by
  obtain ⟨a, cap, hv, hle, hr, h⟩ := h
  have hf := cellAt_flat hr hd
  rcases h with rfl | ⟨ad, arr, elem, fz, rfl, hs, hh, hq, hrows⟩
  · have : rows = [] := List.eq_nil_of_length_eq_zero (by omega)
    subst this; simp at hf
  · rw [rdRows_flat, rdCs_iff] at hrows
    obtain ⟨u, hu, hrd⟩ := hrows o d hf
    simp only [Nat.zero_add] at hu hrd
    exact ⟨ad, _, cap, arr, elem, fz, u, hv, hs, hh, hq, hu, hrd⟩
theorem rd_path {w : World} {ω : Nat → Lab} {r : Root} : ∀ (p : Path) (sz : Nat) (rows : List (List D)) (q : Path) (v : Value) (sz' : Nat) (rows' : List (List D)),
    rd w (.lst sz rows) (Qown ω r q) v → pathRows sz rows p = some (sz', rows') → ∃ u, onPath ω w r q p v u ∧ rd w (.lst sz' rows') (Qown ω r (q ++ p)) u
  | [], sz, rows, q, v, sz', rows', h, hp => by
    simp only [pathRows, Option.some.injEq, Prod.mk.injEq] at hp
    obtain ⟨rfl, rfl⟩ := hp
    exact ⟨v, rfl, by simpa using h⟩
  | o :: p, sz, rows, q, v, sz', rows', h, hp => by
    simp only [pathRows] at hp
    split at hp
    · rename_i sz1 rows1 hc
      obtain ⟨ad, n, cap, arr, elem, fz, u, h1, h2, h3, h4, h5, h6⟩ := rd_lst h hc
      have h7 : rd w (.lst sz1 rows1) (Qown ω r (q ++ [o])) u := rd_carry _ _ _ _ (fun q' ad' m' arr' elem' fz' hh hq => ⟨hh, by
        obtain ⟨a1, a2, a3⟩ := hq
        exact ⟨by rw [a1]; simp, a2, a3⟩⟩) h6
      obtain ⟨u', h8, h9⟩ := rd_path p sz1 rows1 (q ++ [o]) u sz' rows' h7 hp
      refine ⟨u', ⟨ad, n, cap, arr, elem, fz, u, h1, h2, by simpa using h4.1, h3, h5, h8⟩, by simpa using h9⟩
    · simp at hp
theorem onPath_det {w : World} {r : Root} : ∀ (p q : Path) (v u u' : Value), onPath ω w r q p v u → onPath ω w r q p v u' → u = u'
  | [], q, v, u, u', h, h' => by simp only [onPath] at h h'; rw [← h, ← h']
  | o :: p, q, v, u, u', h, h' => by
    obtain ⟨ad, n, cap, arr, elem, fz, x, h1, h2, h3, h4, h5, h6⟩ := h
    obtain ⟨ad', n', cap', arr', elem', fz', x', h1', h2', h3', h4', h5', h6'⟩ := h'
    rw [h1] at h1'
    injection h1' with e1 e2 e3
    injection e1 with e1
    subst e1
    rw [h4] at h4'
    injection h4' with e4
    injection e4 with e4 e5 e6
    subst e4
    rw [h5] at h5'
    injection h5' with e7
    subst e7
    exact onPath_det p (q ++ [o]) x u u' h6 h6'
theorem hd_det {p : Pl} {u u' : Value} (h : hd ω m p u) (h' : hd ω m p u') : u = u' := by
  obtain ⟨v, h1, h2⟩ := h
  obtain ⟨v', h3, h4⟩ := h'
  rw [h1] at h3; cases h3
  exact onPath_det _ _ _ _ _ h2 h4
theorem RR.at {p : Pl} {v : Value} (h : RR ω m st) {sz : Nat} {rows : List (List D)} (hr : rowsAt st p = some (sz, rows)) (hv : hd ω m p v) :
    rd m.w (.lst sz rows) (Qown ω p.r p.p) v := by
  unfold rowsAt at hr
  split at hr
  · rename_i sz0 rows0 hc
    obtain ⟨v0, h0, h1⟩ := h.r.cell (r := p.r) (by rw [hc]; simp)
    rw [hc] at h1
    obtain ⟨u, h2, h3⟩ := rd_path p.p sz0 rows0 [] v0 sz rows h1 hr
    rw [hd_det ⟨v0, h0, h2⟩ hv] at h3
    simpa using h3
  · simp at hr
end
inductive XOp where
  | mv (x : XO)
  | asg (x : XO) (tk : Bool)
  | pick (c a b : XO)
  | alloc (zero : List Cell)
  | box (x : XO) (tk : Bool)
  | build (zero : List Cell) (parts : List (Nat × Nat × XO))
  | bslice (sz : Nat) (parts : List XO)
  | load (ag : Bool) (n : Nat) (a : XO)
  | store (n : Nat) (a x : XO) (tk : Bool)
  | nilc (x : XO)
  | bin (op : BinOp) (x y : XO)
  | eqs (ne : Bool) (ks : List Nat) (x y : XO)
  | binB (ne : Bool) (x y : XO)
  | un (op : UnOp) (x : XO)
  | convI (k : IntKind) (x : XO)
  | b2s (x : XO)
  | mks (sz bytes : Nat) (zero : List D) (l : XO)
  | slcS (x : XO) (lo hi : Option XO)
  | slcR (sz : Nat) (x : XO) (lo hi : Option XO)
  | slcO (sz : Nat) (x : XO) (lo hi : Option XO)
  | slc0 (sz : Nat) (x : XO)
  | fad (off : Nat) (x : XO)
  | fld (ag : Bool) (off n : Nat) (x : XO)
  | iad (sz : Nat) (x i : XO)
  | idx (x i : XO)
  | ext (i : Nat) (x : XO)
  | len (str : Bool) (x : XO)
  | app (sz bytes : Nat) (x y : XO) (nested : Bool)
  | mm (mx : Bool) (x y : XO)
  | mkf (f : Fn) (fi ca : List XO)
  | call (f : FuncId) (args : List (Bool × XO)) (refs : List Nat)
  | callv (x : XO) (args : List (Bool × XO)) (refs : List Nat)
  | isnil (x : XO)
  | cnew (f : FuncId) (x : XO)
def one (c : Cell) : Option SV := some ⟨.one, [c]⟩
def intBin (op : BinOp) (k : IntKind) (a b : Int) : Option Cell :=
  match op with
  | .add => some (.int k (k.wrap (a + b)))
  | .sub => some (.int k (k.wrap (a - b)))
  | .mul => some (.int k (k.wrap (a * b)))
  | .quo => if b = 0 then none else some (.int k (k.wrap (a.tdiv b)))
  | .rem => if b = 0 then none else some (.int k (a.tmod b))
  | .and => some (.int k (bits .and k a b))
  | .or => some (.int k (bits .or k a b))
  | .xor => some (.int k (bits .xor k a b))
  | .andNot => some (.int k (bits .andNot k a b))
  | .eql => some (.bool (decide (a = b)))
  | .neq => some (.bool (!decide (a = b)))
  | .lss => some (.bool (decide (a < b)))
  | .leq => some (.bool (decide (a ≤ b)))
  | .gtr => some (.bool (decide (b < a)))
  | .geq => some (.bool (decide (b ≤ a)))
  | _ => none
def shiftBin (op : BinOp) (k : IntKind) (a b : Int) : Option Cell :=
  if b < 0 then none else
  match op with
  | .shl => some (.int k (k.wrap (a * 2 ^ (min b.toNat k.bits))))
  | .shr => some (.int k (a.fdiv (2 ^ (min b.toNat k.bits))))
  | _ => none
def strBin (op : BinOp) (a b : ByteArray) : Option Cell :=
  match op with
  | .add => if a.size + b.size ≤ 9223372036854775807 then some (.str (a ++ b)) else none
  | .eql => some (.bool (decide (a = b)))
  | .neq => some (.bool (!decide (a = b)))
  | .lss => some (.bool (Op.bytesLess a.toList b.toList))
  | .leq => some (.bool (Op.bytesLess a.toList b.toList || decide (a = b)))
  | .gtr => some (.bool (!(Op.bytesLess a.toList b.toList || decide (a = b))))
  | .geq => some (.bool (!Op.bytesLess a.toList b.toList))
  | _ => none
def isShift : BinOp → Bool
  | .shl => true
  | .shr => true
  | _ => false
def binC (op : BinOp) : Cell → Cell → Option Cell
  | .int k a, .int k' b => if isShift op then shiftBin op k a b else if k = k' then intBin op k a b else none
  | .str a, .str b => strBin op a b
  | _, _ => none
def unC (op : UnOp) : Cell → Option Cell
  | .int k a => match op with
    | .neg => some (.int k (k.wrap (0 - a)))
    | .xor => some (.int k (bits .xor k (if k.signed then -1 else k.max) a))
    | _ => none
  | .bool b => match op with
    | .not => some (.bool !b)
    | _ => none
  | _ => none
def D.toCell (p : Pl) (o : Nat) : D → Cell
  | .int k n => .int k n
  | .bool b => .bool b
  | .str s => .str s
  | .lst _ _ => .al ⟨p.r, p.p ++ [o]⟩
  | .gone => .undef
def D.roCell : D → Cell
  | .int k n => .int k n
  | .bool b => .bool b
  | .str s => .str s
  | .lst sz rows => .ro sz rows
  | .gone => .undef
def toCells (p : Pl) : Nat → List D → List Cell
  | _, [] => []
  | o, d :: ds => d.toCell p o :: toCells p (o + 1) ds
def Sh.of (ag : Bool) : Sh := if ag then .agg else .one
def mkLoad (ag : Bool) (n : Nat) (cs : List Cell) : Option SV :=
  if cs.length = n then (if ag then some ⟨.agg, cs⟩ else match cs with
    | [c] => if c.plain then some ⟨.one, [c]⟩ else none
    | _ => none) else none
def load (st : St) (ag : Bool) (n : Nat) : Cell → Option SV
  | .ptr k o => match lookR st.rf k with
    | some cs => mkLoad ag n (copyCs (.ref k) o ((cs.drop o).take n))
    | none => none
  | .eptr p o => match rowsAt st p with
    | some (sz, rows) => match rows[o / sz]? with
      | some r => mkLoad ag n (toCells p o ((r.drop (o % sz)).take n))
      | none => none
    | none => none
  | .rptr ds => mkLoad ag n ((ds.take n).map D.roCell)
  | _ => none
def rowsOf (st : St) : Cell → Option (Nat × List (List D))
  | .ro sz rows => some (sz, rows)
  | .own sz rows => some (sz, rows)
  | .al p => rowsAt st p
  | _ => none
def numOfD : List D → Option Int
  | [.int .u8 n] => some n
  | _ => none
def numsOf : List (List D) → Option (List Int)
  | [] => some []
  | r :: rs => match numOfD r, numsOf rs with
    | some b, some bs => some (b :: bs)
    | _, _ => none
def loBound (st : St) : Option XO → Option Int
  | none => some 0
  | some x => match (evX st x).c1 with
    | .int _ n => some n
    | _ => none
def hiBound (st : St) (len : Nat) : Option XO → Option Int
  | none => some len
  | some x => match (evX st x).c1 with
    | .int _ n => some n
    | _ => none
def extAt : List (Bool × Nat) → Nat → Nat → Option (Bool × Nat × Nat)
  | [], _, _ => none
  | (b, n) :: _, 0, o => some (b, o, n)
  | (_, n) :: l, i + 1, o => extAt l i (o + n)
def svCell (v : SV) : Cell := match v.sh, v.cs with
  | .one, [c] => c
  | .agg, cs => if cs.any Cell.isOwn then .undef else .st cs
  | _, _ => .undef
def eqCell : Nat → Cell → Cell → Option Bool
  | 0, .int k a, .int k' b => if k = k' then some (decide (a = b)) else none
  | 1, .bool a, .bool b => some (a == b)
  | 2, .str a, .str b => some (decide (a = b))
  | _, _, _ => none
def eqCells : List Nat → List Cell → List Cell → Option Bool
  | [], [], [] => some true
  | [k], [c], [d] => eqCell k c d
  | k :: ks, c :: cs, d :: ds => match eqCell k c d, eqCells ks cs ds with
    | some a, some b => some (a && b)
    | _, _ => none
  | _, _, _ => none
def byteAt (s : ByteArray) (i : Nat) : Int := match s[i]? with
  | some b => b.toNat
  | none => 0
def qop (st : St) : XOp → Option SV
  | .mv x => some (evX st x)
  | .pick c a b => match (evX st c).c1 with
    | .bool t => some (if t then evX st a else evX st b)
    | _ => none
  | .load ag n a => load st ag n (evX st a).c1
  | .nilc x => match (evX st x).c1 with
    | .ptr k o => one (.ptr k o)
    | .eptr p o => one (.eptr p o)
    | .rptr ds => one (.rptr ds)
    | _ => none
  | .bin op x y => (binC op (evX st x).c1 (evX st y).c1).bind one
  | .binB ne x y => match (evX st x).c1, (evX st y).c1 with
    | .bool a, .bool b => one (.bool (if ne then a != b else a == b))
    | _, _ => none
  | .eqs ne ks x y => match (evX st x).sh, (evX st y).sh with
    | .agg, .agg => match eqCells ks (evX st x).cs (evX st y).cs with
      | some b => one (.bool (if ne then !b else b))
      | none => none
    | _, _ => none
  | .un op x => (unC op (evX st x).c1).bind one
  | .convI k x => match (evX st x).c1 with
    | .int _ n => one (.int k (k.wrap n))
    | _ => none
  | .b2s x => match rowsOf st (evX st x).c1 with
    | some (sz, rows) => if sz = 1 then (numsOf rows).bind fun bs => one (.str (strOfNums bs)) else none
    | none => none
  | .slcS x lo hi => match (evX st x).c1 with
    | .str s => match loBound st lo, hiBound st s.size hi with
      | some l, some h => if 0 ≤ l ∧ l ≤ h ∧ h ≤ s.size then one (.str (s.extract l.toNat h.toNat)) else none
      | _, _ => none
    | _ => none
  | .slcR sz x lo hi => match (evX st x).c1 with
    | .ro sz' rows => match loBound st lo, hiBound st rows.length hi with
      | some l, some h => if sz' = sz ∧ 0 ≤ l ∧ l ≤ h ∧ h ≤ rows.length then one (.ro sz ((rows.take h.toNat).drop l.toNat)) else none
      | _, _ => none
    | _ => none
  | .fad off x => match (evX st x).c1 with
    | .ptr k o => one (.ptr k (o + off))
    | .eptr p o => one (.eptr p (o + off))
    | .rptr ds => one (.rptr (ds.drop off))
    | _ => none
  | .fld ag off n x => match (evX st x).sh with
    | .agg => mkLoad ag n (((evX st x).cs.drop off).take n)
    | _ => none
  | .iad sz x i => match (evX st i).c1 with
    | .int _ n => match (evX st x).c1 with
      | .ro sz' rows => if sz' = sz ∧ 0 ≤ n ∧ n < rows.length then one (.rptr (rows.drop n.toNat).flatten) else none
      | .al p => match rowsAt st p with
        | some (sz', rows) => if sz' = sz ∧ 0 ≤ n ∧ n < rows.length then one (.eptr p (n.toNat * sz)) else none
        | none => none
      | _ => none
    | _ => none
  | .idx x i => match (evX st x).c1, (evX st i).c1 with
    | .str s, .int _ n => if 0 ≤ n ∧ n < s.size then one (.int .u8 (byteAt s n.toNat)) else none
    | _, _ => none
  | .ext i x => match (evX st x).sh with
    | .tup l => match extAt l i 0 with
      | some (b, o, n) => mkLoad b n (((evX st x).cs.drop o).take n)
      | none => none
    | _ => none
  | .len str x => match str, (evX st x).c1 with
    | true, .str s => one (.int .i64 s.size)
    | false, c => match rowsOf st c with
      | some (_, rows) => one (.int .i64 rows.length)
      | none => none
    | _, _ => none
  | .mm mx x y => match (evX st x).c1, (evX st y).c1 with
    | .int k a, .int k' b => if k = k' then one (.int k (if mx then (if b > a then b else a) else (if b < a then b else a))) else none
    | _, _ => none
  | .slc0 sz x => match rowsOf st (evX st x).c1 with
    | some _ => one (.own sz [])
    | none => none
  | .mkf f fi ca => if (fi ++ ca).all (fun x => !(svCell (evX st x)).isOwn) then one (.fn f (fi.map fun x => svCell (evX st x)) (ca.map fun x => svCell (evX st x))) else none
  | _ => none
def tyIs (P : Program) (t : TypeId) (ag : Bool) (n : Nat) : Bool :=
  (match P.underlying t with
    | some (.struct _) => ag
    | some (.array _ _) => ag
    | some _ => !ag
    | none => false) && (match P.info? t with
    | some i => i.size == n
    | none => false) && (ag || n == 1)
def tySlice (P : Program) (t : TypeId) (sz : Nat) : Bool :=
  match P.underlying t with
  | some (.slice e) => (match P.info? e with
    | some i => i.size == sz
    | none => false)
  | _ => false
def tyStr (P : Program) (t : TypeId) : Bool := match P.underlying t with
  | some .string => true
  | _ => false
def tyBool (P : Program) (t : TypeId) : Bool := match P.underlying t with
  | some .bool => true
  | _ => false
def tyInt (P : Program) (t : TypeId) (k : IntKind) : Bool := match P.underlying t with
  | some (.int k') => decide (k' = k)
  | _ => false
def tyAny (P : Program) (t : TypeId) : Bool := (P.underlying t).isSome
def tyBytes (P : Program) (t : TypeId) : Bool := match P.underlying t with
  | some (.slice e) => tyInt P e .u8 && (match P.info? e with
    | some i => i.size == 1
    | none => false)
  | _ => false
def fieldIs (P : Program) (t : TypeId) (f : Nat) (off : Nat) (chk : TypeId → Bool) : Bool :=
  match P.underlying t with
  | some (.struct fs) => (match fs[f]? with
    | some fl => fl.offset == off && chk fl.type
    | none => false)
  | _ => false
def sizePos (P : Program) (t : TypeId) : Bool := match P.info? t with
  | some i => i.size != 0
  | none => false
def isStruct (P : Program) (t : TypeId) : Bool := match P.underlying t with
  | some (.struct _) => true
  | _ => false
def eqKf (P : Program) (chk : TypeId → Option (List Nat)) : List Field → List Nat → Option (List Nat)
  | [], acc => some acc
  | f :: fs, acc => if (f.name == "_") = false ∧ f.offset = acc.length then (match chk f.type with
    | some l => if tyIs P f.type (isStruct P f.type) l.length = true then eqKf P chk fs (acc ++ l) else none
    | none => none) else none
def eqKs (P : Program) : Nat → TypeId → Option (List Nat)
  | 0, _ => none
  | k + 1, t => match P.underlying t with
    | some (.int _) => some [0]
    | some .bool => some [1]
    | some .string => some [2]
    | some (.struct fs) => if P.stoodInHeld t = false then eqKf P (eqKs P k) fs.toList [] else none
    | _ => none
def mOo : Option Operand → Option XO → Bool
  | none, none => true
  | some x, some y => mO x y
  | _, _ => false
def mOs : List Operand → List XO → Bool
  | [], [] => true
  | x :: xs, y :: ys => mO x y && mOs xs ys
  | _, _ => false
def mQ (P : Program) (o : Oper) : XOp → Bool
  | .mv x => match o.op with
    | .move y => mO y x
    | _ => false
  | .pick c a b => match o.op with
    | .pick c' a' b' => mO c' c && mO a' a && mO b' b
    | _ => false
  | .load ag n a => match o.op with
    | .load t y => mO y a && tyIs P t ag n
    | _ => false
  | .nilc x => match o.op with
    | .nilCheck y => mO y x
    | _ => false
  | .bin op x y => match o.op with
    | .binOp op' t x' y' _ => decide (op' = op) && mO x' x && mO y' y
    | _ => false
  | .binB ne x y => match o.op with
    | .binOp op' t x' y' _ => decide (op' = if ne then .neq else .eql) && mO x' x && mO y' y && tyBool P t
    | _ => false
  | .eqs ne ks x y => match o.op with
    | .binOp op' t x' y' _ => decide (op' = if ne then .neq else .eql) && mO x' x && mO y' y && isStruct P t && decide (eqKs P 8 t = some ks) && !P.eqGuardType P.depth t
    | _ => false
  | .un op x => match o.op with
    | .unOp op' _ y => decide (op' = op) && mO y x
    | _ => false
  | .convI k x => match o.op with
    | .convert s d y => mO y x && tyAny P s && tyInt P d k
    | _ => false
  | .b2s x => match o.op with
    | .convert s d y => mO y x && tyBytes P s && tyStr P d
    | _ => false
  | .slcS x lo hi => match o.op with
    | .slice t y l h none => mO y x && mOo l lo && mOo h hi && tyStr P t
    | _ => false
  | .slcR sz x lo hi => match o.op with
    | .slice t y l h none => mO y x && mOo l lo && mOo h hi && tySlice P t sz
    | _ => false
  | .slc0 sz x => match o.op with
    | .slice t y none (some (.const (.int _ 0))) (some (.const (.int _ 0))) => mO y x && tySlice P t sz
    | _ => false
  | .fad off x => match o.op with
    | .fieldAddr t y f => mO y x && fieldIs P t f off (sizePos P)
    | _ => false
  | .fld ag off n x => match o.op with
    | .field t y f => mO y x && fieldIs P t f off (fun u => tyIs P u ag n)
    | _ => false
  | .iad sz x i => match o.op with
    | .indexAddr t y j => mO y x && mO j i && tySlice P t sz
    | _ => false
  | .idx x i => match o.op with
    | .index t y j => mO y x && mO j i && tyStr P t
    | _ => false
  | .ext i x => match o.op with
    | .extract y j => mO y x && j == i
    | _ => false
  | .len str x => match o.op with
    | .call { callee := .builtin .len, args, argTypes } => (match args.toList, argTypes.toList with
      | [y], [t] => mO y x && (if str then tyStr P t else (match P.underlying t with | some (.slice _) => true | _ => false))
      | _, _ => false)
    | _ => false
  | .mm mx x y => match o.op with
    | .call { callee := .builtin b, args, argTypes := _ } => (match args.toList with
      | [x', y'] => decide (b = if mx then .max else .min) && mO x' x && mO y' y
      | _ => false)
    | _ => false
  | .mkf f fi ca => match o.op with
    | .makeFunc f' fi' ca' => decide (f' = f) && mOs fi'.toList fi && mOs ca'.toList ca
    | _ => false
  | _ => false
section
variable {P : Program} {ω : Nat → Lab} {m : Mc} {st : St} {o : Oper} {a : Act}
def QOk (P : Program) (ω : Nat → Lab) (m : Mc) (st : St) (o : Oper) (a : Act) (x : SV) : Prop :=
  ∃ v, (execOp a.eval o).run P m.w = .ok (.value v) m.w ∧ (∀ r, SVR ω m r v x) ∧ x.alOk st
theorem run_isAgg {w : World} {t : TypeId} {ag : Bool} {n : Nat} (h : tyIs P t ag n = true) : (isAgg t).run P w = .ok ag w ∧ (∃ i, P.info? t = some i ∧ i.size = n) ∧ (ag = true ∨ n = 1) := by
  simp only [tyIs, Bool.and_eq_true, Bool.or_eq_true, beq_iff_eq] at h
  obtain ⟨⟨h1, h2⟩, h3⟩ := h
  refine ⟨?_, ?_, h3⟩
  · unfold isAgg
    cases hu : P.underlying t with
    | none => simp [hu] at h1
    | some d =>
      simp only [Sem.run_bind, run_underlying hu, Result.andThen_ok]
      rw [hu] at h1
      cases d <;> simp_all
  · cases hi : P.info? t with
    | none => simp [hi] at h2
    | some i => exact ⟨i, rfl, by simpa [hi] using h2⟩
theorem run_sizeOf {w : World} {t : TypeId} {i : TypeInfo} (h : P.info? t = some i) : (sizeOf t).run P w = .ok i.size w := by
  simp [sizeOf, typeInfo, h]
theorem cell?_at {w : World} {b o : Nat} {arr : Array Value} {elem : TypeId} {fz : Nat × Nat} (h : w.heap[b]? = some (.cells arr elem fz)) : w.cell? ⟨b, o, none⟩ = arr[o]? := by
  simp [World.cell?, h]
theorem run_loadVar {w : World} {t : TypeId} {ag : Bool} {n : Nat} {b o : Nat} {arr : Array Value} {elem : TypeId} {fz : Nat × Nat} (h : tyIs P t ag n = true)
    (hh : w.heap[b]? = some (.cells arr elem fz)) (vs : List Value) (hn : vs.length = n) (hv : ∀ (j : Nat) (v : Value), vs[j]? = some v → arr[o + j]? = some v) :
    (loadVar t ⟨b, o, none⟩).run P w = .ok (if ag then .agg vs.toArray else vs.headD undef) w := by
  obtain ⟨h1, ⟨i, h2, h3⟩, h4⟩ := run_isAgg (w := w) h
  have hl := run_loadCells_list (P := P) w ⟨b, o, none⟩ vs (fun j v hj => by rw [Addr.add_lit, cell?_at hh]; exact hv j v hj)
  rw [hn] at hl
  cases ag with
  | true => simp [loadVar, h1, run_sizeOf h2, h3, hl]
  | false =>
    have hn1 : n = 1 := by simpa using h4
    subst hn1
    obtain ⟨v, rfl⟩ : ∃ v, vs = [v] := by
      cases vs with
      | nil => simp at hn
      | cons v vs => cases vs with
        | nil => exact ⟨v, rfl⟩
        | cons _ _ => simp at hn
    have := hv 0 v rfl
    simp only [Nat.add_zero] at this
    simp [loadVar, h1, cell?_at hh, this]
theorem mkLoad_sound {r : Nat → Root} {ag : Bool} {n : Nat} {vs : List Value} {cs : List Cell} {x : SV} (hx : mkLoad ag n cs = some x) (h : CRs ω m r 0 vs cs) :
    vs.length = n ∧ SVR ω m r (if ag then .agg vs.toArray else vs.headD undef) x ∧ x.cs = cs ∧ x.sh ≠ .no := by
  have hl := ((CRs_iff ω m r vs cs 0).1 h).1
  unfold mkLoad at hx
  split at hx
  · rename_i hn
    refine ⟨by omega, ?_⟩
    cases ag with
    | true =>
      simp only [if_true, Option.some.injEq] at hx; subst hx
      exact ⟨⟨⟨_, rfl⟩, by simpa [flatV] using h⟩, rfl, by simp⟩
    | false =>
      simp only [Bool.false_eq_true, if_false] at hx ⊢
      split at hx
      · rename_i c
        split at hx
        · rename_i hp
          simp only [Option.some.injEq] at hx; subst hx
          cases vs with
          | nil => simp at hl
          | cons v vs => cases vs with
            | cons _ _ => simp at hl
            | nil =>
              have h1 := CR_single h.1 hp
              exact ⟨SVR_one h1 h.1, rfl, by simp⟩
        · simp at hx
      · simp at hx
  · simp at hx
end
section
variable {P : Program} {ω : Nat → Lab} {m : Mc} {st : St} {o : Oper} {a : Act}
theorem onPath_snoc {w : World} {r : Root} : ∀ (p q : Path) (v : Value) (ad : Addr) (n cap : Nat) (arr : Array Value) (elem : TypeId) (fz : Nat × Nat) (j : Nat) (u : Value),
    onPath ω w r q p v (.slice (some ad) n cap) → ad.spot = none → ω ad.block = .at r (q ++ p) → w.heap[ad.block]? = some (.cells arr elem fz) → arr[ad.off + j]? = some u →
    onPath ω w r q (p ++ [j]) v u
  | [], q, v, ad, n, cap, arr, elem, fz, j, u, h, hs, hl, hh, hu => by
    simp only [onPath] at h; subst h
    exact ⟨ad, n, cap, arr, elem, fz, u, rfl, hs, by simpa using hl, hh, hu, rfl⟩
  | o :: p, q, v, ad, n, cap, arr, elem, fz, j, u, h, hs, hl, hh, hu => by
    obtain ⟨ad', n', cap', arr', elem', fz', v', h1, h2, h3, h4, h5, h6⟩ := h
    exact ⟨ad', n', cap', arr', elem', fz', v', h1, h2, h3, h4, h5, onPath_snoc p (q ++ [o]) v' ad n cap arr elem fz j u h6 hs (by simpa using hl) hh hu⟩
theorem rd_lst_single {w : World} {sz : Nat} {rows : List (List D)} {Q : BP} {v : Value} (h : rd w (.lst sz rows) Q v) : Value.single v = true := by
  obtain ⟨a, cap, rfl, _⟩ := h; rfl
theorem CR_toCell {p : Pl} {ad : Addr} {n cap : Nat} {arr : Array Value} {elem : TypeId} {fz : Nat × Nat} {j : Nat} {u : Value} {d : D} {r : Root}
    (hp : hd ω m p (.slice (some ad) n cap)) (hs : ad.spot = none) (hl : ω ad.block = .at p.r p.p) (hh : m.w.heap[ad.block]? = some (.cells arr elem fz))
    (hu : arr[ad.off + j]? = some u) {Q : BP} (hd' : rd m.w d Q u) : CR ω m r u (d.toCell p j) := by
  cases d with
  | int k n => exact hd'
  | bool b => exact hd'
  | str s => exact hd'
  | gone => trivial
  | lst sz rows =>
    obtain ⟨v0, h0, h1⟩ := hp
    exact ⟨⟨v0, h0, onPath_snoc p.p [] v0 ad n cap arr elem fz j u h1 hs (by simpa using hl) hh hu⟩, rd_lst_single hd'⟩
theorem CR_roCell {r : Root} {u : Value} {d : D} (h : rd m.w d (Qro ω) u) : CR ω m r u d.roCell := by
  cases d <;> first | exact h | trivial
theorem toCells_get (p : Pl) : ∀ (ds : List D) (o i : Nat), (toCells p o ds)[i]? = (ds[i]?).map (D.toCell p (o + i))
  | [], o, i => by simp [toCells]
  | d :: ds, o, i => by
    cases i with
    | zero => simp [toCells]
    | succ i => simp only [toCells, List.getElem?_cons_succ, toCells_get p ds (o + 1) i]; rw [show o + 1 + i = o + (i + 1) by omega]
theorem toCells_length (p : Pl) : ∀ (ds : List D) (o : Nat), (toCells p o ds).length = ds.length
  | [], o => rfl
  | d :: ds, o => by simp [toCells, toCells_length p ds (o + 1)]
theorem rd_flat {w : World} {sz : Nat} {rows : List (List D)} {Q : BP} {v : Value} (h : rd w (.lst sz rows) Q v) (hne : rows ≠ []) :
    ∃ ad cap arr elem fz, v = .slice (some ad) rows.length cap ∧ rows.length ≤ cap ∧ ad.spot = none ∧ w.heap[ad.block]? = some (.cells arr elem fz) ∧ Q [] ad (cap * sz) arr fz ∧
      (∀ r ∈ rows, r.length = sz) ∧ ∀ (j : Nat) d, rows.flatten[j]? = some d → ∃ u, arr[ad.off + j]? = some u ∧ rd w d (fun q => Q (j :: q)) u := by
  obtain ⟨a, cap, hv, hle, hr, h⟩ := h
  rcases h with rfl | ⟨ad, arr, elem, fz, rfl, hs, hh, hq, hrows⟩
  · exact absurd (List.eq_nil_of_length_eq_zero (by omega)) hne
  · rw [rdRows_flat, rdCs_iff] at hrows
    exact ⟨ad, cap, arr, elem, fz, hv, hle, hs, hh, hq, hr, fun j d hd => by simpa using hrows j d hd⟩
theorem row_flat {sz : Nat} {rows : List (List D)} {o : Nat} {r : List D} (hr : ∀ r ∈ rows, r.length = sz) (h : rows[o / sz]? = some r) {i : Nat} {d : D} (hd : (r.drop (o % sz))[i]? = some d) :
    rows.flatten[o + i]? = some d := by
  have hlen := hr r (List.mem_of_getElem? h)
  rw [List.getElem?_drop] at hd
  have hlt := (List.getElem?_eq_some_iff.1 hd).1
  have := flatten_get (sz := sz) rows (o / sz) (o % sz + i) hr (by omega)
  rw [show o / sz * sz + (o % sz + i) = o + i by rw [← Nat.add_assoc, Nat.mul_comm, Nat.div_add_mod]] at this
  rw [this, h]; exact hd
theorem load_sound {ag : Bool} {n : Nat} {c : Cell} {x : SV} {v : Value} {r0 : Root} (h : RR ω m st) (hc : CR ω m r0 v c) (hx : load st ag n c = some x) :
    ∃ (b o : Nat) (arr : Array Value) (elem : TypeId) (fz : Nat × Nat) (vs : List Value), v = .pointer (some ⟨b, o, none⟩) ∧ m.w.heap[b]? = some (.cells arr elem fz) ∧ vs.length = n ∧ (∀ (j : Nat) (v : Value), vs[j]? = some v → arr[o + j]? = some v) ∧
      (∀ r, SVR ω m r (if ag then .agg vs.toArray else vs.headD undef) x) ∧ x.alOk st := by
  cases c with
  | ptr k o =>
    simp only [load] at hx
    split at hx
    · rename_i cs hcs
      obtain ⟨arr, elem, h1, h2, h3⟩ := h.r.rf k cs hcs
      have h3' := h3
      rw [CRs_iff] at h3
      refine ⟨m.rb k, o, arr, elem, (0, 0), (arr.toList.drop o).take n, hc, h1, ?_, ?_, ?_, ?_⟩
      · have key : ∀ r, CRs ω m r 0 ((arr.toList.drop o).take n) (copyCs (.ref k) o ((cs.drop o).take n)) := by
          intro r
          rw [CRs_iff]
          refine ⟨by rw [copyCs_length, List.length_take, List.length_take, List.length_drop, List.length_drop, h3.1], fun i u d hu hd => ?_⟩
          simp only [copyCs_get, Option.map_eq_some_iff, List.getElem?_take, List.getElem?_drop] at hu hd
          obtain ⟨c, hc', rfl⟩ := hd
          split at hu
          · rename_i hi
            simp only [hi, if_true] at hc'
            have := h3.2 (o + i) u c hu hc'
            simp only [Nat.zero_add] at this
            refine CR_copy (r := .ref k (o + i)) ?_ this
            simp only [hdR, h1]; simpa using hu
          · simp at hu
        exact (mkLoad_sound hx (key (.ref k))).1
      · intro j v hj
        simp only [List.getElem?_take, List.getElem?_drop] at hj
        split at hj
        · simpa using hj
        · simp at hj
      · intro r
        have key : CRs ω m r 0 ((arr.toList.drop o).take n) (copyCs (.ref k) o ((cs.drop o).take n)) := by
          rw [CRs_iff]
          refine ⟨by rw [copyCs_length, List.length_take, List.length_take, List.length_drop, List.length_drop, h3.1], fun i u d hu hd => ?_⟩
          simp only [copyCs_get, Option.map_eq_some_iff, List.getElem?_take, List.getElem?_drop] at hu hd
          obtain ⟨c, hc', rfl⟩ := hd
          split at hu
          · rename_i hi
            simp only [hi, if_true] at hc'
            have := h3.2 (o + i) u c hu hc'
            simp only [Nat.zero_add] at this
            refine CR_copy (r := .ref k (o + i)) ?_ this
            simp only [hdR, h1]; simpa using hu
          · simp at hu
        exact (mkLoad_sound hx key).2.1
      · have key : CRs ω m (.ref k) 0 ((arr.toList.drop o).take n) (copyCs (.ref k) o ((cs.drop o).take n)) := by
          rw [CRs_iff]
          refine ⟨by rw [copyCs_length, List.length_take, List.length_take, List.length_drop, List.length_drop, h3.1], fun i u d hu hd => ?_⟩
          simp only [copyCs_get, Option.map_eq_some_iff, List.getElem?_take, List.getElem?_drop] at hu hd
          obtain ⟨c, hc', rfl⟩ := hd
          split at hu
          · rename_i hi
            simp only [hi, if_true] at hc'
            have := h3.2 (o + i) u c hu hc'
            simp only [Nat.zero_add] at this
            refine CR_copy (r := .ref k (o + i)) ?_ this
            simp only [hdR, h1]; simpa using hu
          · simp at hu
        obtain ⟨_, _, hxc, _⟩ := mkLoad_sound hx key
        refine SV.alOk_of fun c hcm p hp => ?_
        rw [hxc] at hcm
        obtain ⟨i, hi⟩ := List.mem_iff_getElem?.1 hcm
        simp only [copyCs_get, Option.map_eq_some_iff, List.getElem?_take, List.getElem?_drop] at hi
        obtain ⟨d, hd, rfl⟩ := hi
        split at hd
        · have hroot : rootCell st (.ref k (o + i)) = d := by simp [rootCell, hcs, hd]
          rcases Cell.copy_places hp with ⟨h4, h5⟩ | h4
          · rw [h5, hroot]; exact h4
          · exact h.al (.ref k (o + i)) p (by rw [hroot]; exact h4)
        · simp at hd
    · simp at hx
  | eptr p o =>
    simp only [load] at hx
    obtain ⟨ad, n0, cap0, hp, hs, rfl⟩ := hc
    split at hx
    · rename_i sz rows hrows
      split at hx
      · rename_i row hrow
        have hrd := h.at hrows hp
        have hne : rows ≠ [] := fun e => by rw [e] at hrow; simp at hrow
        obtain ⟨ad', cap, arr, elem, fz, hv, _, _, hh, hq, hlen, hel⟩ := rd_flat hrd hne
        injection hv with e1 e2 e3
        injection e1 with e1
        subst e1
        obtain ⟨hq1, _, _⟩ := hq
        simp only [List.append_nil] at hq1
        -- the values
        have hvals : ∀ (i : Nat) (d : D), ((row.drop (o % sz)).take n)[i]? = some d → ∃ u, arr[ad.off + (o + i)]? = some u ∧ rd m.w d (fun q => Qown ω p.r p.p ((o + i) :: q)) u := by
          intro i d hd
          rw [List.getElem?_take] at hd
          split at hd
          · exact hel (o + i) d (row_flat hlen hrow hd)
          · simp at hd
        have hlenv : ((arr.toList.drop (ad.off + o)).take ((row.drop (o % sz)).take n).length).length = ((row.drop (o % sz)).take n).length := by
          rw [List.length_take, Nat.min_eq_left]
          rw [List.length_drop]
          cases hl : ((row.drop (o % sz)).take n).length with
          | zero => omega
          | succ l =>
            obtain ⟨u, hu, _⟩ := hvals l (((row.drop (o % sz)).take n)[l]'(by omega)) (List.getElem?_eq_getElem _)
            have := (Array.getElem?_eq_some_iff.1 hu).1
            simp only [Array.length_toList]; omega
        have key : ∀ r, CRs ω m r 0 ((arr.toList.drop (ad.off + o)).take ((row.drop (o % sz)).take n).length) (toCells p o ((row.drop (o % sz)).take n)) := by
          intro r
          rw [CRs_iff]
          refine ⟨by rw [hlenv, toCells_length], fun i u d hu hd => ?_⟩
          simp only [toCells_get, Option.map_eq_some_iff] at hd
          obtain ⟨d, hd, rfl⟩ := hd
          obtain ⟨u', hu', hrd'⟩ := hvals i d hd
          have hi : i < ((row.drop (o % sz)).take n).length := (List.getElem?_eq_some_iff.1 hd).1
          simp only [List.getElem?_take, hi, if_true, List.getElem?_drop, Array.getElem?_toList] at hu
          rw [show ad.off + o + i = ad.off + (o + i) by omega, hu'] at hu
          injection hu with hu; subst hu
          exact CR_toCell hp hs hq1 hh hu' hrd'
        have hk := mkLoad_sound hx (key (.res))
        refine ⟨ad.block, ad.off + o, arr, elem, fz, _, rfl, hh, hk.1, ?_, fun r => (mkLoad_sound hx (key r)).2.1, ?_⟩
        · intro j v hj
          simp only [List.getElem?_take, List.getElem?_drop] at hj
          split at hj
          · simpa using hj
          · simp at hj
        · refine SV.alOk_of fun c hcm q hq => ?_
          rw [hk.2.2.1] at hcm
          obtain ⟨i, hi⟩ := List.mem_iff_getElem?.1 hcm
          simp only [toCells_get, Option.map_eq_some_iff] at hi
          obtain ⟨d, hd, rfl⟩ := hi
          have hown : (rootCell st p.r).isOwn = true := by
            unfold rowsAt at hrows
            split at hrows
            · rename_i hc; rw [hc]; rfl
            · simp at hrows
          cases d <;> simp [D.toCell, Cell.places] at hq
          subst hq; exact hown
      · simp at hx
    · simp at hx
  | rptr ds =>
    simp only [load] at hx
    obtain ⟨b, o, arr, elem, fz, rfl, hh, hl, hrd⟩ := hc
    rw [rdCs_iff] at hrd
    have key : ∀ r, CRs ω m r 0 ((arr.toList.drop o).take (ds.take n).length) ((ds.take n).map D.roCell) := by
      intro r
      rw [CRs_iff]
      refine ⟨?_, fun i u d hu hd => ?_⟩
      · rw [List.length_map, List.length_take, Nat.min_eq_left]
        rw [List.length_drop]
        cases hl : (ds.take n).length with
        | zero => omega
        | succ l =>
          have hlt : l < ds.length := by rw [List.length_take] at hl; omega
          obtain ⟨u, hu, _⟩ := hrd l ds[l] (List.getElem?_eq_getElem hlt)
          have := (Array.getElem?_eq_some_iff.1 hu).1
          simp only [Array.length_toList]; omega
      · simp only [List.getElem?_map, Option.map_eq_some_iff] at hd
        obtain ⟨d, hd, rfl⟩ := hd
        have hi : i < (ds.take n).length := (List.getElem?_eq_some_iff.1 hd).1
        rw [List.getElem?_take] at hd
        split at hd
        · obtain ⟨u', hu', hrd'⟩ := hrd i d hd
          simp only [Nat.zero_add] at hu' hrd'
          simp only [List.getElem?_take, hi, if_true, List.getElem?_drop, Array.getElem?_toList] at hu
          rw [hu'] at hu; injection hu with hu; subst hu
          exact CR_roCell hrd'
        · simp at hd
    have hk := mkLoad_sound hx (key (.res))
    refine ⟨b, o, arr, elem, fz, _, rfl, hh, hk.1, ?_, fun r => (mkLoad_sound hx (key r)).2.1, ?_⟩
    · intro j v hj
      simp only [List.getElem?_take, List.getElem?_drop] at hj
      split at hj
      · simpa using hj
      · simp at hj
    · refine SV.alOk_of fun c hcm q hq => ?_
      rw [hk.2.2.1] at hcm
      obtain ⟨i, hi⟩ := List.mem_iff_getElem?.1 hcm
      simp only [List.getElem?_map, Option.map_eq_some_iff] at hi
      obtain ⟨d, hd, rfl⟩ := hi
      cases d <;> simp [D.roCell, Cell.places] at hq
  | _ => simp [load] at hx
end
section
variable {P : Program} {ω : Nat → Lab} {m : Mc} {st : St} {o : Oper} {a : Act}
theorem one_sound {r : Nat → Root} {v : Value} {c : Cell} (hc : c.plain = true) (h : CR ω m (r 0) v c) : SVR ω m r v ⟨.one, [c]⟩ := SVR_one (CR_single h hc) h
theorem one_al {c : Cell} (h : ∀ p ∈ c.places, (rootCell st p.r).isOwn = true) : SV.alOk st ⟨.one, [c]⟩ := SV.alOk_of fun d hd p hp => by
  simp only [List.mem_singleton] at hd; subst hd; exact h p hp
theorem c1_of {x : XO} {y : Operand} (h : RR ω m st) (ha : a.tmps = m.T) (ho : mO y x = true) {c : Cell} (hc : (evX st x).c1 = c) (hne : c ≠ .undef) (r : Nat → Root) :
    CR ω m (r 0) (a.eval y) c ∧ (∀ p ∈ c.places, (rootCell st p.r).isOwn = true) := by
  have h1 := SVR_c1 (evX_sound h ha ho r) (by rw [hc]; exact hne)
  rw [hc] at h1
  refine ⟨h1.2, fun p hp => ?_⟩
  have h2 := evX_alOk (st := st) h ho
  have hg : (evX st x).get 0 = c := by
    rw [← hc]; unfold SV.c1 at hc ⊢; unfold SV.get
    generalize evX st x = y0 at hc ⊢
    obtain ⟨sh, cs⟩ := y0
    cases sh with
    | one =>
      cases cs with
      | nil => exact absurd hc.symm hne
      | cons d ds => cases ds with
        | nil => rfl
        | cons _ _ => exact absurd hc.symm hne
    | _ => exact absurd hc.symm hne
  exact h2 0 p (by rw [hg]; exact hp)
theorem eval_int {x : XO} {y : Operand} (h : RR ω m st) (ha : a.tmps = m.T) (ho : mO y x = true) {k : IntKind} {n : Int} (hc : (evX st x).c1 = .int k n) : a.eval y = .int k n :=
  (c1_of h ha ho hc (by simp) (fun _ => .res 0)).1
theorem eval_str {x : XO} {y : Operand} (h : RR ω m st) (ha : a.tmps = m.T) (ho : mO y x = true) {s : ByteArray} (hc : (evX st x).c1 = .str s) : a.eval y = .string s :=
  (c1_of h ha ho hc (by simp) (fun _ => .res 0)).1
theorem eval_bool {x : XO} {y : Operand} (h : RR ω m st) (ha : a.tmps = m.T) (ho : mO y x = true) {b : Bool} (hc : (evX st x).c1 = .bool b) : a.eval y = .bool b :=
  (c1_of h ha ho hc (by simp) (fun _ => .res 0)).1
theorem one_inj {c : Cell} {x : SV} (h : one c = some x) : x = ⟨.one, [c]⟩ := by simpa [one] using h.symm
theorem toList_beq (a b : ByteArray) : (a.toList == b.toList) = decide (a = b) := by
  have : (a.toList = b.toList) ↔ a = b := by
    constructor
    · intro h
      have h1 : ∀ x : ByteArray, x.toList = x.data.toList := ByteArray.toList_eq
      rw [h1, h1] at h
      cases a; cases b; congr 1; exact Array.ext' h
    · intro h; rw [h]
  by_cases h : a = b
  · simp [h]
  · have h2 : ¬ a.toList = b.toList := fun e => h (this.1 e)
    simp [h, h2]
def cellVal : Cell → Value
  | .int k n => .int k n
  | .bool b => .bool b
  | .str s => .string s
  | _ => undef
def Cell.lit : Cell → Bool
  | .int _ _ => true
  | .bool _ => true
  | .str _ => true
  | _ => false
theorem lit_sound {r : Nat → Root} {c : Cell} (h : c.lit = true) : SVR ω m r (cellVal c) ⟨.one, [c]⟩ := by
  cases c <;> simp [Cell.lit] at h <;> exact one_sound rfl rfl
theorem lit_al {c : Cell} (h : c.lit = true) : SV.alOk st ⟨.one, [c]⟩ := one_al fun p hp => by
  cases c <;> simp [Cell.lit] at h <;> simp [Cell.places] at hp
theorem run_intBin {op : BinOp} {t : TypeId} {k : IntKind} {x y : Int} {e : Cell} {w : World} (h : intBin op k x y = some e) :
    (binOp op t (.int k x) (.int k y)).run P w = .ok (cellVal e) w ∧ e.lit = true := by
  cases op <;> simp only [intBin] at h <;> first
    | (simp only [Option.some.injEq] at h; subst h; refine ⟨?_, rfl⟩; simp [binOp, Op.intArith, Op.intCmp, intBits_and, intBits_or, intBits_xor, intBits_andNot, cellVal, bne, BEq.beq]; done)
    | (split at h
       · simp at h
       · rename_i hb
         simp only [Option.some.injEq] at h; subst h; refine ⟨?_, rfl⟩; simp [binOp, Op.intDiv, hb, cellVal]; done)
    | (simp only [Option.some.injEq] at h; subst h; refine ⟨?_, rfl⟩; simp [binOp, Op.intCmp, cellVal]; try rfl)
    | (simp at h; done)
theorem run_shiftBin {op : BinOp} {t : TypeId} {k k' : IntKind} {x y : Int} {e : Cell} {w : World} (h : shiftBin op k x y = some e) (hs : isShift op = true) :
    (binOp op t (.int k x) (.int k' y)).run P w = .ok (cellVal e) w ∧ e.lit = true := by
  unfold shiftBin at h
  split at h
  · simp at h
  · rename_i hb
    cases op <;> simp [isShift] at hs <;> simp only [Option.some.injEq] at h <;> subst h <;> refine ⟨?_, rfl⟩ <;> simp [binOp, Op.shift, hb, cellVal]
theorem run_strBin {op : BinOp} {t : TypeId} {x y : ByteArray} {e : Cell} {w : World} (h : strBin op x y = some e) :
    (binOp op t (.string x) (.string y)).run P w = .ok (cellVal e) w ∧ e.lit = true := by
  cases op <;> simp only [strBin] at h <;> first
      | (split at h
         · rename_i hb
           simp only [Option.some.injEq] at h; subst h; refine ⟨?_, rfl⟩
           have := run_string_add_sum (P := P) (w := w) x y hb
           simp [binOp, this, cellVal]
         · simp at h)
      | (simp only [Option.some.injEq] at h; subst h; refine ⟨?_, rfl⟩; simp [binOp, Op.stringOp, toList_beq, cellVal]; done)
      | (simp at h; done)
theorem run_bin {op : BinOp} {t : TypeId} {x y : Value} {c d e : Cell} {r : Root} {w : World} (hx : CR ω m r x c) (hy : CR ω m r y d) (h : binC op c d = some e) :
    (binOp op t x y).run P w = .ok (cellVal e) w ∧ e.lit = true ∧ (∀ px py, eqGuard op t px py x y = pure ()) := by
  cases c <;> cases d <;> simp only [binC] at h <;> first | (simp at h; done) | skip
  · simp only [CRx] at hx hy
    subst hx; subst hy
    split at h
    · rename_i k1 n1 k2 n2 hs; have := run_shiftBin (P := P) (t := t) (k' := k2) (w := w) h hs; exact ⟨this.1, this.2, fun px py => eqGuard_at_int ..⟩
    · split at h
      · rename_i hk; subst hk; have := run_intBin (P := P) (t := t) (w := w) h; exact ⟨this.1, this.2, fun px py => eqGuard_at_int ..⟩
      · simp at h
  · simp only [CRx] at hx hy
    subst hx; subst hy
    have := run_strBin (P := P) (t := t) (w := w) h; exact ⟨this.1, this.2, fun px py => eqGuard_at_string ..⟩
end
section
variable {P : Program} {ω : Nat → Lab} {m : Mc} {st : St} {o : Oper} {a : Act}
theorem QOk.of {x : SV} {v : Value} (hr : (execOp a.eval o).run P m.w = .ok (.value v) m.w) (hs : ∀ r, SVR ω m r v x) (ha : x.alOk st) : QOk P ω m st o a x := ⟨v, hr, hs, ha⟩
theorem q_mv {x : XO} {y : SV} (h : RR ω m st) (ha : a.tmps = m.T) (hm : mQ P o (.mv x) = true) (hq : qop st (.mv x) = some y) : QOk P ω m st o a y := by
  simp only [mQ] at hm
  split at hm
  · rename_i z hz
    simp only [qop, Option.some.injEq] at hq; subst hq
    exact ⟨_, by simp [execOp, hz]; try rfl, fun r => evX_sound h ha hm r, evX_alOk h hm⟩
  · simp at hm
theorem q_pick {c b d : XO} {y : SV} (h : RR ω m st) (ha : a.tmps = m.T) (hm : mQ P o (.pick c b d) = true) (hq : qop st (.pick c b d) = some y) : QOk P ω m st o a y := by
  simp only [mQ] at hm
  split at hm
  · rename_i c' b' d' hz
    simp only [Bool.and_eq_true] at hm
    simp only [qop] at hq
    split at hq
    · rename_i t hc
      simp only [Option.some.injEq] at hq; subst hq
      have h1 := eval_bool h ha hm.1.1 hc
      cases t with
      | true => exact ⟨_, by simp [execOp, hz, h1, asBool]; try rfl, fun r => evX_sound h ha hm.1.2 r, evX_alOk h hm.1.2⟩
      | false => exact ⟨_, by simp [execOp, hz, h1, asBool]; try rfl, fun r => evX_sound h ha hm.2 r, evX_alOk h hm.2⟩
    · simp at hq
  · simp at hm
theorem load_not_undef {ag : Bool} {n : Nat} {c : Cell} {y : SV} (h : load st ag n c = some y) : c ≠ .undef := by
  intro e; subst e; simp [load] at h
theorem q_load {ag : Bool} {n : Nat} {x : XO} {y : SV} (h : RR ω m st) (ha : a.tmps = m.T) (hm : mQ P o (.load ag n x) = true) (hq : qop st (.load ag n x) = some y) : QOk P ω m st o a y := by
  simp only [mQ] at hm
  split at hm
  · rename_i t z hz
    simp only [Bool.and_eq_true] at hm
    simp only [qop] at hq
    have h1 := c1_of h ha hm.1 rfl (load_not_undef hq) (fun _ => .res 0)
    obtain ⟨b, o', arr, elem, fz, vs, hv, hh, hn, hel, hs, hal⟩ := load_sound h h1.1 hq
    have := run_loadVar (P := P) hm.2 hh vs hn hel
    exact ⟨_, by simp [execOp, hz, Instr.loadAt, hv, Instr.sureAddr, this]; try rfl, hs, hal⟩
  · simp at hm
theorem q_nilc {x : XO} {y : SV} (h : RR ω m st) (ha : a.tmps = m.T) (hm : mQ P o (.nilc x) = true) (hq : qop st (.nilc x) = some y) : QOk P ω m st o a y := by
  simp only [mQ] at hm
  split at hm
  · rename_i z hz
    simp only [qop] at hq
    split at hq <;> first | (simp at hq; done) | skip
    · rename_i k o' hc
      have h1 := c1_of h ha hm hc (by simp) (fun _ => .res 0)
      rw [one_inj hq]
      have hv : a.eval z = .pointer (some ⟨m.rb k, o', none⟩) := h1.1
      exact ⟨a.eval z, by simp [execOp, hz, hv], fun r => one_sound rfl (CR_anyroot rfl h1.1), one_al h1.2⟩
    · rename_i p o' hc
      have h1 := c1_of h ha hm hc (by simp) (fun _ => .res 0)
      rw [one_inj hq]
      obtain ⟨ad, _, _, _, _, hv⟩ := h1.1
      exact ⟨a.eval z, by simp [execOp, hz, hv], fun r => one_sound rfl (CR_anyroot rfl h1.1), one_al h1.2⟩
    · rename_i ds hc
      have h1 := c1_of h ha hm hc (by simp) (fun _ => .res 0)
      rw [one_inj hq]
      obtain ⟨b, o', arr, _, _, hv, _⟩ := h1.1
      exact ⟨a.eval z, by simp [execOp, hz, hv], fun r => one_sound rfl (CR_anyroot rfl h1.1), one_al h1.2⟩
  · simp at hm
theorem binC_ne {op : BinOp} {c d e : Cell} (h : binC op c d = some e) : c ≠ .undef ∧ d ≠ .undef := by
  constructor
  · intro e; subst e; cases d <;> simp [binC] at h
  · intro e; subst e; cases c <;> simp [binC] at h
theorem q_bin {op : BinOp} {x z : XO} {y : SV} (h : RR ω m st) (ha : a.tmps = m.T) (hm : mQ P o (.bin op x z) = true) (hq : qop st (.bin op x z) = some y) : QOk P ω m st o a y := by
  simp only [mQ] at hm
  split at hm
  · rename_i op' t x' z' _ hz
    simp only [Bool.and_eq_true, decide_eq_true_eq] at hm
    obtain ⟨⟨rfl, hx⟩, hz'⟩ := hm
    simp only [qop, Option.bind_eq_some_iff] at hq
    obtain ⟨e, he, hq⟩ := hq
    have hne := binC_ne he
    have h1 := c1_of h ha hx rfl hne.1 (fun _ => .res 0)
    have h2 := c1_of h ha hz' rfl hne.2 (fun _ => .res 0)
    obtain ⟨h3, h4, h5⟩ := run_bin (P := P) (t := t) (w := m.w) h1.1 h2.1 he
    rw [one_inj hq]
    exact ⟨cellVal e, by simp [execOp, hz, h5, h3], fun r => lit_sound h4, lit_al h4⟩
  · simp at hm
theorem run_equalIn_bool (d : Nat) (t : TypeId) (b1 b2 : Bool) (w : World) (hu : P.underlying t = some .bool) : (Op.equalIn (d + 1) t (.bool b1) (.bool b2)).run P w = .ok (b1 == b2) w := by
  simp [Op.equalIn, run_underlying hu]
theorem run_equal_bool (t : TypeId) (b1 b2 : Bool) (w : World) (hu : P.underlying t = some .bool) : (Op.equal t (.bool b1) (.bool b2)).run P w = .ok (b1 == b2) w := run_equalIn_bool 9999 t b1 b2 w hu
theorem binOp_eql_bool (t : TypeId) (b1 b2 : Bool) : binOp .eql t (.bool b1) (.bool b2) = (do pure (.bool (← Op.equal t (.bool b1) (.bool b2)))) := rfl
theorem binOp_neq_bool (t : TypeId) (b1 b2 : Bool) : binOp .neq t (.bool b1) (.bool b2) = (do pure (.bool (!(← Op.equal t (.bool b1) (.bool b2))))) := rfl
theorem q_binB {ne : Bool} {x z : XO} {y : SV} (h : RR ω m st) (ha : a.tmps = m.T) (hm : mQ P o (.binB ne x z) = true) (hq : qop st (.binB ne x z) = some y) : QOk P ω m st o a y := by
  simp only [mQ] at hm
  split at hm
  · rename_i op' t x' z' _ hz
    simp only [Bool.and_eq_true, decide_eq_true_eq] at hm
    obtain ⟨⟨⟨rfl, hx⟩, hz'⟩, ht⟩ := hm
    simp only [qop] at hq
    split at hq
    · rename_i b1 b2 hc1 hc2
      have e1 := eval_bool h ha hx hc1
      have e2 := eval_bool h ha hz' hc2
      rw [one_inj hq]
      have hu : P.underlying t = some .bool := by
        unfold tyBool at ht; split at ht <;> simp_all
      refine ⟨.bool (if ne then b1 != b2 else b1 == b2), ?_, fun r => one_sound rfl rfl, one_al (by simp [Cell.places])⟩
      cases ne
      · simp [execOp, hz, e1, e2, eqGuard_at_bool, binOp_eql_bool, run_equal_bool t b1 b2 m.w hu]
      · simp [execOp, hz, e1, e2, eqGuard_at_bool, binOp_neq_bool, run_equal_bool t b1 b2 m.w hu, bne]
    · simp at hq
  · simp at hm
theorem q_un {op : UnOp} {x : XO} {y : SV} (h : RR ω m st) (ha : a.tmps = m.T) (hm : mQ P o (.un op x) = true) (hq : qop st (.un op x) = some y) : QOk P ω m st o a y := by
  simp only [mQ] at hm
  split at hm
  · rename_i op' t x' hz
    simp only [Bool.and_eq_true, decide_eq_true_eq] at hm
    obtain ⟨rfl, hx⟩ := hm
    simp only [qop, Option.bind_eq_some_iff] at hq
    obtain ⟨e, he, hq⟩ := hq
    rw [one_inj hq]
    generalize hc : (evX st x).c1 = c at he
    cases c <;> simp only [unC] at he <;> first | (simp at he; done) | skip
    · have e1 := eval_int h ha hx hc
      split at he <;> simp only [Option.some.injEq, reduceCtorEq] at he
      · subst he
        exact ⟨_, by simp [execOp, hz, e1, Op.unary, Op.intArith]; try rfl, fun r => one_sound rfl rfl, one_al (by simp [Cell.places])⟩
      · subst he
        exact ⟨_, by simp [execOp, hz, e1, Op.unary, intBits_xor]; try rfl, fun r => one_sound rfl rfl, one_al (by simp [Cell.places])⟩
    · have e1 := eval_bool h ha hx hc
      split at he <;> simp only [Option.some.injEq, reduceCtorEq] at he
      subst he
      exact ⟨_, by simp [execOp, hz, e1, Op.unary]; try rfl, fun r => one_sound rfl rfl, one_al (by simp [Cell.places])⟩
  · simp at hm
theorem ty_int {t : TypeId} {k : IntKind} (h : tyInt P t k = true) : P.underlying t = some (.int k) := by
  unfold tyInt at h; split at h
  · rename_i k' hk; simp only [decide_eq_true_eq] at h; subst h; exact hk
  · simp at h
theorem ty_str {t : TypeId} (h : tyStr P t = true) : P.underlying t = some .string := by
  unfold tyStr at h; split at h <;> simp_all
theorem q_convI {k : IntKind} {x : XO} {y : SV} (h : RR ω m st) (ha : a.tmps = m.T) (hm : mQ P o (.convI k x) = true) (hq : qop st (.convI k x) = some y) : QOk P ω m st o a y := by
  simp only [mQ] at hm
  split at hm
  · rename_i s d z hz
    simp only [Bool.and_eq_true] at hm
    obtain ⟨⟨hx, hs⟩, hd⟩ := hm
    simp only [qop] at hq
    split at hq
    · rename_i k' n hc
      have e1 := eval_int h ha hx hc
      rw [one_inj hq]
      have hu := ty_int hd
      obtain ⟨ds, hds⟩ := Option.isSome_iff_exists.1 hs
      refine ⟨_, ?_, fun r => one_sound rfl rfl, one_al (by simp [Cell.places])⟩
      simp only [execOp, hz, e1, convert, Sem.run_bind, run_underlying hds, run_underlying hu, Result.andThen_ok]
      cases ds <;> simp [Conv.intToInt]
    · simp at hq
  · simp at hm
end
section
variable {P : Program} {ω : Nat → Lab} {m : Mc} {st : St} {o : Oper} {a : Act}
def Qany : BP := fun _ _ _ _ _ => True
theorem rowsOf_sound {c : Cell} {v : Value} {r : Root} {sz : Nat} {rows : List (List D)} (h : RR ω m st) (hc : CR ω m r v c) (hr : rowsOf st c = some (sz, rows)) : rd m.w (.lst sz rows) Qany v := by
  have any : ∀ {Q : BP} {d : D} {u : Value}, rd m.w d Q u → rd m.w d Qany u := fun h => rd_carry _ _ _ _ (fun _ _ _ _ _ _ hh _ => ⟨hh, trivial⟩) h
  cases c <;> simp only [rowsOf] at hr <;> first | (simp at hr; done) | skip
  · simp only [Option.some.injEq, Prod.mk.injEq] at hr; obtain ⟨rfl, rfl⟩ := hr; exact any hc
  · simp only [Option.some.injEq, Prod.mk.injEq] at hr; obtain ⟨rfl, rfl⟩ := hr; exact any hc
  · exact any (h.at hr hc.1)
theorem rowsOf_ne {c : Cell} {x : Nat × List (List D)} (h : rowsOf st c = some x) : c ≠ .undef := by intro e; subst e; simp [rowsOf] at h
theorem nums_of {w : World} {arr : Array Value} {o : Nat} : ∀ (rows : List (List D)) (bs : List Int) (j : Nat), numsOf rows = some bs → (∀ r ∈ rows, r.length = 1) →
    rdRows w rows Qany arr o j → bs.length = rows.length ∧ ∀ (i : Nat) b, bs[i]? = some b → arr[o + (j + i)]? = some (.int .u8 b)
  | [], bs, j, h, _, _ => by simp only [numsOf, Option.some.injEq] at h; subst h; simp
  | r :: rs, bs, j, h, hr, hd => by
    simp only [numsOf] at h
    split at h
    · rename_i b bs' hb hbs
      simp only [Option.some.injEq] at h; subst h
      obtain ⟨h1, h2⟩ := hd
      unfold numOfD at hb
      split at hb
      · rename_i n
        simp only [Option.some.injEq] at hb; subst hb
        obtain ⟨⟨v, hv, hrd⟩, _⟩ := h1
        simp only [rd] at hrd; subst hrd
        have ih := nums_of rs bs' (j + 1) hbs (fun x hx => hr x (by simp [hx])) (by simpa using h2)
        refine ⟨by simp [ih.1], fun i c hc => ?_⟩
        cases i with
        | zero => simp only [List.getElem?_cons_zero, Option.some.injEq] at hc; subst hc; exact hv
        | succ i =>
          simp only [List.getElem?_cons_succ] at hc
          rw [show j + (i + 1) = j + 1 + i by omega]; exact ih.2 i c hc
      · simp at hb
    · simp at h
theorem run_conv {src dst : TypeId} {z : Operand} {r : Value} (hz : o.op = .convert src dst z) (h : (convert src dst (a.eval z)).run P m.w = .ok r m.w) :
    (execOp a.eval o).run P m.w = .ok (.value r) m.w := by simp [execOp, hz, h]
theorem q_b2s {x : XO} {y : SV} (h : RR ω m st) (ha : a.tmps = m.T) (hm : mQ P o (.b2s x) = true) (hq : qop st (.b2s x) = some y) : QOk P ω m st o a y := by
  simp only [mQ] at hm
  split at hm
  · rename_i s d z hz
    simp only [Bool.and_eq_true] at hm
    obtain ⟨⟨hx, hs⟩, hd⟩ := hm
    simp only [qop] at hq
    split at hq
    · rename_i sz rows hrows
      split at hq
      · rename_i hsz; subst hsz
        rw [Option.bind_eq_some_iff] at hq
        obtain ⟨bs, hbs, hq⟩ := hq
        rw [one_inj hq]
        have h1 := c1_of h ha hx rfl (rowsOf_ne hrows) (fun _ => .res 0)
        have hrd := rowsOf_sound h h1.1 hrows
        unfold tyBytes at hs
        split at hs
        · rename_i e hse
          simp only [Bool.and_eq_true] at hs
          have he := ty_int hs.1
          have hdt := ty_str hd
          refine ⟨.string (strOfNums bs), run_conv hz ?_, fun r => one_sound rfl rfl, one_al (by simp [Cell.places])⟩
          obtain ⟨ad?, cap, hv, hle, hlen, hmem⟩ := hrd
          rw [hv]
          rcases hmem with rfl | ⟨ad, arr, elem, fz, rfl, hsp, hh, _, hrw⟩
          · have hr0 : rows = [] := List.eq_nil_of_length_eq_zero (by omega)
            subst hr0
            simp only [numsOf, Option.some.injEq] at hbs; subst hbs
            rw [run_convert_bytes_string m.w s d e _ _ _ hse he hdt]
            cases ad? with
            | none => simp [Conv.bytesToString]; rfl
            | some ad =>
              rw [run_bytesToString m.w ad _ _ [] (by simp [loadCells, loadCellsFrom])]
              rfl
          · obtain ⟨hbl, hb⟩ := nums_of rows bs 0 hbs hlen hrw
            obtain ⟨b, off, spot⟩ := ad
            simp only at hsp; subst hsp
            refine run_convert_bytes_arg m.w s e hse he b off rows.length cap bs hbl (fun i hi => ?_) d hdt
            rw [cell?_at hh]
            have := hb i (bs.getD i 0) (by simp [List.getD, List.getElem?_eq_getElem (show i < bs.length by omega)])
            simpa using this
        · simp at hs
      · simp at hq
    · simp at hq
  · simp at hm
theorem loB {lo : Option XO} {l : Option Operand} {n : Int} (h : RR ω m st) (ha : a.tmps = m.T) (hm : mOo l lo = true) (hl : loBound st lo = some n) :
    (l = none ∧ n = 0) ∨ ∃ y k, l = some y ∧ a.eval y = .int k n := by
  cases l <;> cases lo <;> simp only [mOo] at hm <;> first | (simp at hm; done) | skip
  · simp only [loBound, Option.some.injEq] at hl; exact .inl ⟨rfl, hl.symm⟩
  · simp only [loBound] at hl
    split at hl
    · rename_i k n' hc
      simp only [Option.some.injEq] at hl; subst hl
      exact .inr ⟨_, k, rfl, eval_int h ha hm hc⟩
    · simp at hl
theorem hiB {lo : Option XO} {l : Option Operand} {n : Int} {len : Nat} (h : RR ω m st) (ha : a.tmps = m.T) (hm : mOo l lo = true) (hl : hiBound st len lo = some n) :
    (l = none ∧ n = len) ∨ ∃ y k, l = some y ∧ a.eval y = .int k n := by
  cases l <;> cases lo <;> simp only [mOo] at hm <;> first | (simp at hm; done) | skip
  · simp only [hiBound, Option.some.injEq] at hl; exact .inl ⟨rfl, hl.symm⟩
  · simp only [hiBound] at hl
    split at hl
    · rename_i k n' hc
      simp only [Option.some.injEq] at hl; subst hl
      exact .inr ⟨_, k, rfl, eval_int h ha hm hc⟩
    · simp at hl
theorem run_sliceBound {k : IntKind} {n : Int} {y : Nat} {c : BoundsCode} {w : World} (h0 : 0 ≤ n) (h1 : n ≤ y) : (Instr.sliceBound (.int k n) y c).run P w = .ok n.toNat w := by
  simp [Instr.sliceBound, asIntOf, h0, h1]
theorem run_bounds {isS : Bool} {len cap : Nat} {lo hi : Option XO} {l h' : Option Operand} {n1 n2 : Int} (h : RR ω m st) (ha : a.tmps = m.T) (hl : mOo l lo = true) (hh : mOo h' hi = true)
    (h1 : loBound st lo = some n1) (h2 : hiBound st len hi = some n2) (hb : 0 ≤ n1 ∧ n1 ≤ n2 ∧ n2 ≤ len) (hc : len ≤ cap) :
    (Instr.sliceBounds isS len cap (l.map a.eval) (h'.map a.eval) none).run P m.w = .ok (n1.toNat, n2.toNat, cap) m.w := by
  rcases loB h ha hl h1 with ⟨rfl, rfl⟩ | ⟨y1, k1, rfl, e1⟩ <;> rcases hiB h ha hh h2 with ⟨rfl, rfl⟩ | ⟨y2, k2, rfl, e2⟩
  · simp [Instr.sliceBounds]
  · have := run_sliceBound (P := P) (k := k2) (n := n2) (y := cap) (c := if isS then .sliceAcap else .sliceAlen) (w := m.w) (by omega) (by omega)
    simp [Instr.sliceBounds, e2, this]
  · have := run_sliceBound (P := P) (k := k1) (n := n1) (y := len) (c := .sliceB) (w := m.w) (by omega) (by omega)
    simp [Instr.sliceBounds, e1, this]
  · have h3 := run_sliceBound (P := P) (k := k2) (n := n2) (y := cap) (c := if isS then .sliceAcap else .sliceAlen) (w := m.w) (by omega) (by omega)
    have h4 := run_sliceBound (P := P) (k := k1) (n := n1) (y := n2.toNat) (c := .sliceB) (w := m.w) (by omega) (by omega)
    simp [Instr.sliceBounds, e1, e2, h3, h4]
theorem q_slcS {x : XO} {lo hi : Option XO} {y : SV} (h : RR ω m st) (ha : a.tmps = m.T) (hm : mQ P o (.slcS x lo hi) = true) (hq : qop st (.slcS x lo hi) = some y) : QOk P ω m st o a y := by
  simp only [mQ] at hm
  split at hm
  · rename_i t z l h' hz
    simp only [Bool.and_eq_true] at hm
    obtain ⟨⟨⟨hx, hl⟩, hh⟩, ht⟩ := hm
    simp only [qop] at hq
    split at hq
    · rename_i s hc
      split at hq
      · rename_i n1 n2 h1 h2
        split at hq
        · rename_i hb
          rw [one_inj hq]
          have hv := eval_str h ha hx hc
          have hu := ty_str ht
          have hbd := run_bounds (P := P) (isS := false) (cap := s.size) h ha hl hh h1 h2 hb (Nat.le_refl _)
          refine ⟨.string (s.extract n1.toNat n2.toNat), ?_, fun r => one_sound rfl rfl, one_al (by simp [Cell.places])⟩
          simp [execOp, hz, Instr.sliceAt, Instr.slice, run_underlying hu, hv, hbd]
        · simp at hq
      · simp at hq
    · simp at hq
  · simp at hm
theorem ty_slice {t : TypeId} {sz : Nat} (h : tySlice P t sz = true) : ∃ e i, P.underlying t = some (.slice e) ∧ P.info? e = some i ∧ i.size = sz := by
  unfold tySlice at h
  split at h
  · rename_i e he
    cases hi : P.info? e with
    | none => simp [hi] at h
    | some i => exact ⟨e, i, he, hi, by simpa [hi] using h⟩
  · simp at h
theorem rd_sub {w : World} {sz : Nat} {rows : List (List D)} {Q : BP} {aa : Option Addr} {n cap l h : Nat} (hrd : rd w (.lst sz rows) Q (.slice aa n cap)) (hl : l ≤ h) (hh : h ≤ rows.length)
    (hQ : ∀ q ad m m' arr fz, Q q ad m arr fz → Q q { ad with off := m' } m arr fz → True)
    (Q' : BP) (hQQ : ∀ (ad : Addr) (k : Nat) arr fz, Q [] ad (cap * sz) arr fz → Q' [] { ad with off := ad.off + l * sz } ((cap - l) * sz) arr fz)
    (hsub : ∀ q ad m arr fz j, Q ((l * sz + j) :: q) ad m arr fz → Q' (j :: q) ad m arr fz) :
    rd w (.lst sz ((rows.take h).drop l)) Q' (.slice (if cap = l then aa else aa.map (·.add (l * sz))) (h - l) (cap - l)) := by
  obtain ⟨a', cap', hv, hle, hr, hmem⟩ := hrd
  injection hv with e1 e2 e3
  subst e1; subst e2; subst e3
  have hlen : ((rows.take h).drop l).length = h - l := by rw [List.length_drop, List.length_take]; omega
  refine ⟨_, cap - l, by rw [hlen], by rw [hlen]; omega, fun r hr' => hr r (List.mem_of_mem_take (List.mem_of_mem_drop hr')), ?_⟩
  by_cases hc : cap = l
  · left; omega
  · right
    rcases hmem with rfl | ⟨ad, arr, elem, fz, rfl, hsp, hh', hq, hrw⟩
    · omega
    · rw [if_neg hc]
      refine ⟨{ ad with off := ad.off + l * sz }, arr, elem, fz, ?_, hsp, hh', hQQ ad 0 arr fz hq, ?_⟩
      · simp only [Option.map_some, Option.some.injEq, Addr.add]
        split
        · rename_i h0; simp only [h0, Nat.add_zero]
        · simp [hsp]
      · rw [rdRows_flat, rdCs_iff] at hrw ⊢
        intro i d hd
        have hflat : ((rows.take h).drop l).flatten[i]? = some d → rows.flatten[l * sz + i]? = some d := by
          intro hd
          have hsplit : rows.flatten = (rows.take l).flatten ++ (rows.drop l).flatten := by rw [← List.flatten_append, List.take_append_drop]
          have hlt : (rows.take l).flatten.length = l * sz := by
            have : ∀ (rs : List (List D)), (∀ r ∈ rs, r.length = sz) → rs.flatten.length = rs.length * sz := by
              intro rs
              induction rs with
              | nil => intro _; simp
              | cons r rs ih => intro h; rw [List.flatten_cons, List.length_append, h r (by simp), ih (fun x hx => h x (by simp [hx])), List.length_cons, Nat.add_mul]; omega
            rw [this _ (fun r hr' => hr r (List.mem_of_mem_take hr')), List.length_take]; congr 1; omega
          rw [hsplit, List.getElem?_append_right (by omega), hlt, show l * sz + i - l * sz = i by omega]
          have h2 : (rows.take h).drop l = (rows.drop l).take (h - l) := by rw [List.drop_take]
          rw [h2] at hd
          have h3 : (rows.drop l).flatten = ((rows.drop l).take (h - l)).flatten ++ ((rows.drop l).drop (h - l)).flatten := by rw [← List.flatten_append, List.take_append_drop]
          rw [h3, List.getElem?_append_left (List.getElem?_eq_some_iff.1 hd).1]; exact hd
        obtain ⟨u, hu, hrd⟩ := hrw (l * sz + i) d (hflat hd)
        refine ⟨u, by rw [← hu]; congr 1; simp only []; omega, ?_⟩
        refine rd_carry _ _ _ _ (fun q ad' m' arr' elem' fz' hhh hqq => ⟨hhh, ?_⟩) hrd
        simp only [Nat.zero_add] at hqq ⊢
        exact hsub q ad' m' arr' fz' i hqq
theorem q_slcR {sz : Nat} {x : XO} {lo hi : Option XO} {y : SV} (h : RR ω m st) (ha : a.tmps = m.T) (hm : mQ P o (.slcR sz x lo hi) = true) (hq : qop st (.slcR sz x lo hi) = some y) : QOk P ω m st o a y := by
  simp only [mQ] at hm
  split at hm
  · rename_i t z l h' hz
    simp only [Bool.and_eq_true] at hm
    obtain ⟨⟨⟨hx, hl⟩, hh⟩, ht⟩ := hm
    simp only [qop] at hq
    split at hq
    · rename_i sz' rows hc
      split at hq
      · rename_i n1 n2 h1 h2
        split at hq
        · rename_i hb
          obtain ⟨hsz, hb⟩ := hb
          subst hsz
          rw [one_inj hq]
          have h3 := c1_of h ha hx hc (by simp) (fun _ => .res 0)
          obtain ⟨e, i, hu, hi', hsi⟩ := ty_slice ht
          obtain ⟨ad?, cap, hv, hle, hlen, hmem⟩ := h3.1
          have hbd := run_bounds (P := P) (isS := true) (cap := cap) h ha hl hh h1 h2 hb hle
          have hrd : rd m.w (.lst sz' rows) (Qro ω) (.slice ad? rows.length cap) := by rw [← hv]; exact h3.1
          have hsub := rd_sub (Q' := Qro ω) (l := n1.toNat) (h := n2.toNat) hrd (by omega) (by omega) (fun _ _ _ _ _ _ _ _ => trivial) (fun _ _ _ _ h => h) (fun _ _ _ _ _ _ h => h)
          refine ⟨_, ?_, fun r => one_sound rfl hsub, one_al (by simp [Cell.places])⟩
          simp [execOp, hz, Instr.sliceAt, Instr.slice, run_underlying hu, hv, hbd, run_sizeOf hi', hsi]
        · simp at hq
      · simp at hq
    · simp at hq
  · simp at hm
end
section
variable {P : Program} {ω : Nat → Lab} {m : Mc} {st : St} {o : Oper} {a : Act}
theorem field_of {t : TypeId} {f off : Nat} {chk : TypeId → Bool} (h : fieldIs P t f off chk = true) :
    ∃ fs fl, P.underlying t = some (.struct fs) ∧ fs[f]? = some fl ∧ fl.offset = off ∧ chk fl.type = true := by
  unfold fieldIs at h
  split at h
  · rename_i fs hfs
    cases hf : fs[f]? with
    | none => simp [hf] at h
    | some fl =>
      simp only [hf, Bool.and_eq_true, beq_iff_eq] at h
      exact ⟨fs, fl, hfs, hf, h.1, h.2⟩
  · simp at h
theorem size_of {t : TypeId} (h : sizePos P t = true) : ∃ i, P.info? t = some i ∧ i.size ≠ 0 := by
  unfold sizePos at h
  cases hi : P.info? t with
  | none => simp [hi] at h
  | some i => exact ⟨i, rfl, by simpa [hi] using h⟩
theorem run_fieldAt {t : TypeId} {f off b k : Nat} {w : World} (h : fieldIs P t f off (sizePos P) = true) :
    (Instr.fieldAt t (.pointer (some ⟨b, k, none⟩)) f).run P w = .ok (.pointer (some ⟨b, k + off, none⟩)) w := by
  obtain ⟨fs, fl, h1, h2, h3, h4⟩ := field_of h
  obtain ⟨i, h5, h6⟩ := size_of h4
  simp [Instr.fieldAt, run_underlying h1, h2, Instr.sureAddr, fieldPlace, run_sizeOf h5, h6, h3, Addr.add_lit]
theorem q_fad {off : Nat} {x : XO} {y : SV} (h : RR ω m st) (ha : a.tmps = m.T) (hm : mQ P o (.fad off x) = true) (hq : qop st (.fad off x) = some y) : QOk P ω m st o a y := by
  simp only [mQ] at hm
  split at hm
  · rename_i t z f hz
    simp only [Bool.and_eq_true] at hm
    obtain ⟨hx, hf⟩ := hm
    simp only [qop] at hq
    split at hq <;> first | (simp at hq; done) | skip
    · rename_i k o' hc
      have h1 := c1_of h ha hx hc (by simp) (fun _ => .res 0)
      rw [one_inj hq]
      have hv : a.eval z = .pointer (some ⟨m.rb k, o', none⟩) := h1.1
      exact ⟨_, by simp [execOp, hz, hv, run_fieldAt hf]; try rfl, fun r => one_sound rfl rfl, one_al (by simp [Cell.places])⟩
    · rename_i p o' hc
      have h1 := c1_of h ha hx hc (by simp) (fun _ => .res 0)
      rw [one_inj hq]
      obtain ⟨ad, n, cap, hp, hs, hv⟩ := h1.1
      exact ⟨_, by simp [execOp, hz, hv, run_fieldAt hf]; try rfl, fun r => one_sound rfl ⟨ad, n, cap, hp, hs, by rw [Nat.add_assoc]⟩, one_al (by simpa [Cell.places] using h1.2)⟩
    · rename_i ds hc
      have h1 := c1_of h ha hx hc (by simp) (fun _ => .res 0)
      rw [one_inj hq]
      obtain ⟨b, o', arr, elem, fz, hv, hh, hl, hrd⟩ := h1.1
      refine ⟨_, by simp [execOp, hz, hv, run_fieldAt hf]; try rfl, fun r => one_sound rfl ⟨b, o' + off, arr, elem, fz, rfl, hh, hl, ?_⟩, one_al (by simp [Cell.places])⟩
      rw [rdCs_iff] at hrd ⊢
      intro i d hd
      rw [List.getElem?_drop] at hd
      obtain ⟨v, hv, hr⟩ := hrd (off + i) d hd
      exact ⟨v, by rw [← hv]; congr 1; omega, hr⟩
  · simp at hm
theorem run_part {t : TypeId} {ag : Bool} {n : Nat} {w : World} (h : tyIs P t ag n = true) (arr : Array Value) (off : Nat) (vs : List Value) (hn : vs.length = n)
    (hv : (arr.toList.drop off).take n = vs) : (part t arr off).run P w = .ok (if ag then .agg vs.toArray else vs.headD undef) w := by
  obtain ⟨h1, ⟨i, h2, h3⟩, h4⟩ := run_isAgg (w := w) h
  have hlen : off + n ≤ arr.size ∨ n = 0 := by
    have := congrArg List.length hv
    rw [List.length_take, List.length_drop, hn, Array.length_toList] at this
    omega
  cases ag with
  | true =>
    simp only [part, Sem.run_bind, h1, Result.andThen_ok, if_true, run_sizeOf h2, h3, Sem.run_pure]
    congr 2
    apply Array.ext'
    rw [← hv]
    simp [Array.toList_extract, List.extract_eq_take_drop]
  | false =>
    have hn1 : n = 1 := by simpa using h4
    subst hn1
    obtain ⟨v, rfl⟩ : ∃ v, vs = [v] := by
      cases vs with
      | nil => simp at hn
      | cons v vs => cases vs with
        | nil => exact ⟨v, rfl⟩
        | cons _ _ => simp at hn
    have hg : arr[off]? = some v := by
      have := congrArg (·[0]?) hv
      simpa using this
    simp [part, h1, hg]
theorem CRs_sub {r' : Nat → Root} {vs : List Value} {cs : List Cell} {off n : Nat} (h : CRs ω m (fun j => r' (j - off)) 0 vs cs) :
    CRs ω m r' 0 ((vs.drop off).take n) ((cs.drop off).take n) := by
  rw [CRs_iff] at h ⊢
  refine ⟨by rw [List.length_take, List.length_take, List.length_drop, List.length_drop, h.1], fun i v c hv hc => ?_⟩
  rw [List.getElem?_take] at hv hc
  split at hv
  · rename_i hi
    simp only [hi, if_true, List.getElem?_drop] at hv hc
    have := h.2 (off + i) v c hv hc
    simp only [Nat.zero_add, Nat.add_sub_cancel_left] at this ⊢
    exact this
  · simp at hv
theorem alOk_mem {x : SV} (hs : x.sh ≠ .no) (h : x.alOk st) : ∀ c ∈ x.cs, ∀ p ∈ c.places, (rootCell st p.r).isOwn = true := by
  intro c hc p hp
  obtain ⟨i, hi⟩ := List.mem_iff_getElem?.1 hc
  refine h i p ?_
  have : x.get i = c := by unfold SV.get; cases hx : x.sh <;> simp_all
  rw [this]; exact hp
theorem q_fld {ag : Bool} {off n : Nat} {x : XO} {y : SV} (h : RR ω m st) (ha : a.tmps = m.T) (hm : mQ P o (.fld ag off n x) = true) (hq : qop st (.fld ag off n x) = some y) : QOk P ω m st o a y := by
  simp only [mQ] at hm
  split at hm
  · rename_i t z f hz
    simp only [Bool.and_eq_true] at hm
    obtain ⟨hx, hf⟩ := hm
    simp only [qop] at hq
    split at hq
    · rename_i hsh
      obtain ⟨fs, fl, h1, h2, h3, h4⟩ := field_of hf
      have hne : (evX st x).sh ≠ .no := by rw [hsh]; simp
      have hev := fun r => (SVR_iff hne).1 (evX_sound h ha hx r)
      obtain ⟨arr, harr⟩ : ∃ arr, a.eval z = .agg arr := by have := (hev .res).1; rw [hsh] at this; exact this
      have key : ∀ r, CRs ω m r 0 ((arr.toList.drop off).take n) (((evX st x).cs.drop off).take n) := fun r => by
        have := (hev (fun j => r (j - off))).2
        rw [harr] at this
        exact CRs_sub this
      obtain ⟨hlen, _, hxc, _⟩ := mkLoad_sound hq (key .res)
      refine ⟨_, ?_, fun r => (mkLoad_sound hq (key r)).2.1, SV.alOk_of fun c hc => ?_⟩
      · have := run_part (P := P) (w := m.w) h4 arr off _ hlen rfl
        simp [execOp, hz, Instr.field, run_underlying h1, h2, harr, asAgg, h3, this]
      · rw [hxc] at hc
        exact alOk_mem hne (evX_alOk h hx) c (List.mem_of_mem_drop (List.mem_of_mem_take hc))
    · simp at hq
  · simp at hm
theorem compOk_ext : ∀ (vs : List Value) (l : List (Bool × Nat)) (i k : Nat) (b : Bool) (off n : Nat), compOk vs l → extAt l i k = some (b, off, n) →
    ∃ v, vs[i]? = some v ∧ k ≤ off ∧ (((vs.flatMap flat1).drop (off - k)).take n).length = n ∧
      v = (if b then .agg (((vs.flatMap flat1).drop (off - k)).take n).toArray else (((vs.flatMap flat1).drop (off - k)).take n).headD undef)
  | [], [], i, k, b, off, n, _, he => by simp [extAt] at he
  | [], _ :: _, i, k, b, off, n, hc, _ => by simp [compOk] at hc
  | _ :: _, [], i, k, b, off, n, hc, _ => by simp [compOk] at hc
  | v :: vs, (b', n') :: l, i, k, b, off, n, hc, he => by
    have hv : (flat1 v).length = n' ∧ compOk vs l ∧ (b' = true → ∃ arr, v = .agg arr) ∧ (b' = false → flat1 v = [v]) := by
      cases b' with
      | true => obtain ⟨⟨arr, rfl, hn⟩, hc⟩ := hc; exact ⟨by simpa [flat1] using hn, hc, fun _ => ⟨arr, rfl⟩, by simp⟩
      | false =>
        obtain ⟨⟨hs, hn⟩, hc⟩ := hc
        have : flat1 v = [v] := by cases v <;> simp_all [Value.single, flat1]
        exact ⟨by rw [this]; simp [hn], hc, by simp, fun _ => this⟩
    obtain ⟨h1, h2, h3, h4⟩ := hv
    cases i with
    | zero =>
      simp only [extAt, Option.some.injEq, Prod.mk.injEq] at he
      obtain ⟨rfl, rfl, rfl⟩ := he
      refine ⟨v, rfl, Nat.le_refl _, ?_⟩
      simp only [Nat.sub_self, List.drop_zero, List.flatMap_cons]
      rw [List.take_append_of_le_length (by omega), List.take_of_length_le (by omega)]
      refine ⟨h1, ?_⟩
      cases b' with
      | true => obtain ⟨arr, rfl⟩ := h3 rfl; simp [flat1]
      | false => rw [h4 rfl]; simp
    | succ i =>
      simp only [extAt] at he
      obtain ⟨u, hu, hk, hw⟩ := compOk_ext vs l i (k + n') b off n h2 he
      refine ⟨u, by simpa using hu, by omega, ?_⟩
      simp only [List.flatMap_cons]
      rw [List.drop_append, List.drop_eq_nil_of_le (by omega), h1]
      simp only [List.nil_append]
      rw [show off - k - n' = off - (k + n') by omega]
      exact hw
theorem q_ext {i : Nat} {x : XO} {y : SV} (h : RR ω m st) (ha : a.tmps = m.T) (hm : mQ P o (.ext i x) = true) (hq : qop st (.ext i x) = some y) : QOk P ω m st o a y := by
  simp only [mQ] at hm
  split at hm
  · rename_i z j hz
    simp only [Bool.and_eq_true, beq_iff_eq] at hm
    obtain ⟨hx, rfl⟩ := hm
    simp only [qop] at hq
    split at hq
    · rename_i l hsh
      split at hq
      · rename_i b off n hext
        have hne : (evX st x).sh ≠ .no := by rw [hsh]; simp
        have hev := fun r => (SVR_iff hne).1 (evX_sound h ha hx r)
        obtain ⟨arr, harr, hcomp⟩ : ∃ arr, a.eval z = .tuple arr ∧ compOk arr.toList l := by have := (hev .res).1; rw [hsh] at this; exact this
        obtain ⟨v, hv, _, hw1, hw2⟩ := compOk_ext arr.toList l j 0 b off n hcomp hext
        simp only [Nat.sub_zero] at hw1 hw2
        have key : ∀ r, CRs ω m r 0 (((arr.toList.flatMap flat1).drop off).take n) (((evX st x).cs.drop off).take n) := fun r => by
          have := (hev (fun j => r (j - off))).2
          rw [harr] at this
          exact CRs_sub this
        obtain ⟨hlen, _, hxc, _⟩ := mkLoad_sound hq (key .res)
        refine ⟨_, ?_, fun r => (mkLoad_sound hq (key r)).2.1, SV.alOk_of fun c hc => ?_⟩
        · simp only [Array.getElem?_toList] at hv
          simp [execOp, hz, Instr.extract, harr, hv, hw2]
        · rw [hxc] at hc
          exact alOk_mem hne (evX_alOk h hx) c (List.mem_of_mem_drop (List.mem_of_mem_take hc))
      · simp at hq
    · simp at hq
  · simp at hm
theorem flatten_drop {sz : Nat} : ∀ (rows : List (List D)) (n i : Nat) (d : D), (∀ r ∈ rows, r.length = sz) → (rows.drop n).flatten[i]? = some d → rows.flatten[n * sz + i]? = some d
  | rows, 0, i, d, _, h => by simpa using h
  | [], n + 1, i, d, _, h => by simp at h
  | r :: rs, n + 1, i, d, hr, h => by
    simp only [List.drop_succ_cons] at h
    have := flatten_drop rs n i d (fun x hx => hr x (by simp [hx])) h
    have hl := hr r (by simp)
    rw [List.flatten_cons, List.getElem?_append_right (by rw [hl, Nat.add_mul]; omega), hl, ← this]
    congr 1; rw [Nat.add_mul]; omega
theorem run_indexAt {t e : TypeId} {i : TypeInfo} {ad : Addr} {len cap : Nat} {k : IntKind} {n : Int} {w : World} (hu : P.underlying t = some (.slice e)) (hi : P.info? e = some i)
    (h0 : 0 ≤ n) (h1 : n < len) : (Instr.indexAt t (.slice (some ad) len cap) (.int k n)).run P w = .ok (.pointer (some (ad.add (n.toNat * i.size)))) w := by
  simp [Instr.indexAt, asIntOf, run_underlying hu, h0, h1, run_sizeOf hi]
theorem q_iad {sz : Nat} {x z' : XO} {y : SV} (h : RR ω m st) (ha : a.tmps = m.T) (hm : mQ P o (.iad sz x z') = true) (hq : qop st (.iad sz x z') = some y) : QOk P ω m st o a y := by
  simp only [mQ] at hm
  split at hm
  · rename_i t z j hz
    simp only [Bool.and_eq_true] at hm
    obtain ⟨⟨hx, hj⟩, ht⟩ := hm
    obtain ⟨e, i, hu, hi, hsi⟩ := ty_slice ht
    simp only [qop] at hq
    split at hq
    · rename_i k n hcn
      have en := eval_int h ha hj hcn
      split at hq
      · rename_i sz' rows hc
        split at hq
        · rename_i hb
          obtain ⟨rfl, h0, h1⟩ := hb
          have hcr := c1_of h ha hx hc (by simp) (fun _ => .res 0)
          rw [one_inj hq]
          have hne : rows ≠ [] := by intro e; subst e; simp at h1; omega
          obtain ⟨ad, cap, arr, elem, fz, hv, hle, hs, hh, hqq, hlen, hel⟩ := rd_flat hcr.1 hne
          obtain ⟨b, off, spot⟩ := ad
          simp only at hs; subst hs
          have hrun := run_indexAt (P := P) (w := m.w) (k := k) (cap := cap) hu hi h0 h1 (ad := ⟨b, off, none⟩)
          rw [hsi, Addr.add_lit] at hrun
          refine ⟨_, by simp [execOp, hz, hv, en, hrun]; try rfl, fun r => one_sound rfl ⟨b, off + n.toNat * sz', arr, elem, fz, rfl, hh, hqq, ?_⟩, one_al (by simp [Cell.places])⟩
          rw [rdCs_iff]
          intro q d hd
          obtain ⟨u, hu', hr⟩ := hel (n.toNat * sz' + q) d (flatten_drop rows n.toNat q d hlen hd)
          exact ⟨u, by rw [← hu']; congr 1; simp only []; omega, hr⟩
        · simp at hq
      · rename_i p hc
        split at hq
        · rename_i sz' rows hrows
          split at hq
          · rename_i hb
            obtain ⟨rfl, h0, h1⟩ := hb
            have hcr := c1_of h ha hx hc (by simp) (fun _ => .res 0)
            rw [one_inj hq]
            have hne : rows ≠ [] := by intro e; subst e; simp at h1; omega
            have hrd := h.at hrows hcr.1.1
            obtain ⟨ad, cap, arr, elem, fz, hv, hle, hs, hh, hqq, hlen, hel⟩ := rd_flat hrd hne
            have hhd := hcr.1.1
            rw [hv] at hhd
            obtain ⟨b, off, spot⟩ := ad
            simp only at hs; subst hs
            have hrun := run_indexAt (P := P) (w := m.w) (k := k) (cap := cap) hu hi h0 h1 (ad := ⟨b, off, none⟩)
            rw [hsi, Addr.add_lit] at hrun
            exact ⟨_, by simp [execOp, hz, hv, en, hrun]; try rfl, fun r => one_sound rfl ⟨_, _, _, hhd, rfl, rfl⟩, one_al (by simpa [Cell.places] using hcr.2)⟩
          · simp at hq
        · simp at hq
      · simp at hq
    · simp at hq
  · simp at hm
theorem q_idx {x z' : XO} {y : SV} (h : RR ω m st) (ha : a.tmps = m.T) (hm : mQ P o (.idx x z') = true) (hq : qop st (.idx x z') = some y) : QOk P ω m st o a y := by
  simp only [mQ] at hm
  split at hm
  · rename_i t z j hz
    simp only [Bool.and_eq_true] at hm
    obtain ⟨⟨hx, hj⟩, ht⟩ := hm
    simp only [qop] at hq
    split at hq
    · rename_i s k n hc hcn
      have en := eval_int h ha hj hcn
      have es := eval_str h ha hx hc
      split at hq
      · rename_i h00
        obtain ⟨h0, h1⟩ := h00
        have hlt : n.toNat < s.size := by omega
        have hb : s[n.toNat]? = some s[n.toNat] := getElem?_pos s n.toNat hlt
        have hby : byteAt s n.toNat = (s[n.toNat]).toNat := by simp [byteAt, hb]
        rw [one_inj hq, hby]
        exact ⟨_, by simp [execOp, hz, es, en, Instr.index, asIntOf, run_underlying (ty_str ht), h0, hb]; try rfl, fun r => one_sound rfl rfl, one_al (by simp [Cell.places])⟩
      · simp at hq
    · simp at hq
  · simp at hm
end
theorem eqCells_cons {k : Nat} {ks : List Nat} {c d : Cell} {cs ds : List Cell} {b : Bool} (h : eqCells (k :: ks) (c :: cs) (d :: ds) = some b) : ∃ x y, eqCell k c d = some x ∧ eqCells ks cs ds = some y ∧ b = (x && y) := by
  cases ks with
  | nil =>
    cases cs with
    | nil =>
      cases ds with
      | nil => exact ⟨b, true, h, rfl, by simp⟩
      | cons _ _ => simp only [eqCells] at h; split at h <;> simp_all [eqCells]
    | cons _ _ =>
      simp only [eqCells] at h
      split at h
      · rename_i a b h1 h2; simp [eqCells] at h2
      · simp at h
  | cons k2 ks =>
    simp only [eqCells] at h
    split at h
    · rename_i x y h1 h2; simp only [Option.some.injEq] at h; exact ⟨x, y, h1, h2, h.symm⟩
    · simp at h
theorem eqCells_len : ∀ {ks : List Nat} {cs ds : List Cell} {b : Bool}, eqCells ks cs ds = some b → cs.length = ks.length ∧ ds.length = ks.length
  | [], [], [], _, _ => ⟨rfl, rfl⟩
  | [], _ :: _, _, _, h => by simp [eqCells] at h
  | [], [], _ :: _, _, h => by simp [eqCells] at h
  | _ :: _, [], _, _, h => by simp [eqCells] at h
  | _ :: _, _ :: _, [], _, h => by
    rename_i ks _ cs _
    cases ks <;> cases cs <;> simp [eqCells] at h
  | k :: ks, c :: cs, d :: ds, b, h => by
    obtain ⟨x, y, _, h2, _⟩ := eqCells_cons h
    obtain ⟨h3, h4⟩ := eqCells_len h2
    exact ⟨by simp [h3], by simp [h4]⟩
theorem eqCells_append : ∀ {l ks : List Nat} {cs ds : List Cell} {b : Bool}, eqCells (l ++ ks) cs ds = some b →
    ∃ x y, eqCells l (cs.take l.length) (ds.take l.length) = some x ∧ eqCells ks (cs.drop l.length) (ds.drop l.length) = some y ∧ b = (x && y)
  | [], ks, cs, ds, b, h => ⟨true, b, by simp [eqCells], by simpa using h, by simp⟩
  | k :: l, ks, [], ds, b, h => by have := (eqCells_len h).1; simp at this
  | k :: l, ks, _ :: _, [], b, h => by have := (eqCells_len h).2; simp at this
  | k :: l, ks, c :: cs, d :: ds, b, h => by
    obtain ⟨x, y, h1, h2, rfl⟩ := eqCells_cons h
    obtain ⟨x', y', h3, h4, rfl⟩ := eqCells_append h2
    refine ⟨x && x', y', ?_, by simpa using h4, by rw [Bool.and_assoc]⟩
    simp only [List.length_cons, List.take_succ_cons]
    cases l with
    | nil =>
      simp only [List.length_nil, List.take_zero, eqCells, Option.some.injEq] at h3
      subst h3
      simp [eqCells, h1]
    | cons k2 l => simp only [eqCells, h1, h3]
def mkv (ag : Bool) (vs : List Value) : Value := if ag then .agg vs.toArray else vs.headD undef
section
variable {P : Program} {ω : Nat → Lab} {m : Mc} {w : World}
theorem CRs_sub0 {r : Root} {vs : List Value} {cs : List Cell} {off n : Nat} (h : CRs ω m (fun _ => r) 0 vs cs) : CRs ω m (fun _ => r) 0 ((vs.drop off).take n) ((cs.drop off).take n) :=
  CRs_sub (r' := fun _ => r) h
theorem eqf_sound {chk : TypeId → Option (List Nat)} {d : Nat}
    (ih : ∀ t l, chk t = some l → ∀ (vs ws : List Value) (cs ds : List Cell) (b : Bool) (r r' : Root), CRs ω m (fun _ => r) 0 vs cs → CRs ω m (fun _ => r') 0 ws ds → eqCells l cs ds = some b →
      (Op.equalIn d t (mkv (isStruct P t) vs) (mkv (isStruct P t) ws)).run P w = .ok b w) {xs ys : Array Value} {cs ds : List Cell} {r r' : Root} (hx : CRs ω m (fun _ => r) 0 xs.toList cs) (hy : CRs ω m (fun _ => r') 0 ys.toList ds) :
    ∀ (fs : List Field) (acc ks : List Nat) (b : Bool), eqKf P chk fs acc = some ks → ks.length = cs.length → acc.length ≤ ks.length ∧ (eqCells (ks.drop acc.length) (cs.drop acc.length) (ds.drop acc.length) = some b →
      (Op.eqFields d xs ys fs).run P w = .ok b w)
  | [], acc, ks, b, hk, hl => by
    simp only [eqKf, Option.some.injEq] at hk; subst hk
    refine ⟨Nat.le_refl _, fun he => ?_⟩
    rw [List.drop_length, hl, List.drop_length] at he
    have key : ∀ (dd : List Cell), eqCells [] [] dd = some b → b = true := fun dd h => by
      cases dd with
      | nil => simp only [eqCells, Option.some.injEq] at h; exact h.symm
      | cons _ _ => simp [eqCells] at h
    rw [key _ he]; rfl
  | f :: fs, acc, ks, b, hk, hl => by
    simp only [eqKf] at hk
    split at hk
    · rename_i hc
      obtain ⟨hn, ho⟩ := hc
      split at hk
      · rename_i l hl1
        split at hk
        · rename_i hty
          have hrest := fun b => eqf_sound ih hx hy fs (acc ++ l) ks b hk hl
          have hle := (hrest true).1
          rw [List.length_append] at hle
          refine ⟨by omega, fun he => ?_⟩
          have hpre : ∀ (fs : List Field) (acc ks : List Nat), eqKf P chk fs acc = some ks → acc <+: ks := by
            intro fs
            induction fs with
            | nil => intro acc ks h; simp only [eqKf, Option.some.injEq] at h; subst h; exact List.prefix_refl _
            | cons f fs ihf =>
              intro acc ks h
              simp only [eqKf] at h
              split at h
              · split at h
                · split at h
                  · exact (List.prefix_append _ _).trans (ihf _ _ h)
                  · simp at h
                · simp at h
              · simp at h
          obtain ⟨tl, htl⟩ := hpre fs (acc ++ l) ks hk
          have hdrop : ks.drop acc.length = l ++ tl := by rw [← htl, List.append_assoc]; simp
          rw [hdrop] at he
          obtain ⟨x, y, h1, h2, rfl⟩ := eqCells_append he
          have hdrop2 : tl = ks.drop (acc ++ l).length := by rw [← htl]; simp
          rw [List.drop_drop, List.drop_drop, ← List.length_append, hdrop2] at h2
          have hr := (hrest y).2 h2
          have hx1 := CRs_sub0 (off := acc.length) (n := l.length) hx
          have hy1 := CRs_sub0 (off := acc.length) (n := l.length) hy
          have e := ih f.type l hl1 _ _ _ _ x r r' hx1 hy1 h1
          have l1 : ((xs.toList.drop acc.length).take l.length).length = l.length := by
            rw [CRs_iff] at hx1; rw [hx1.1]; exact (eqCells_len h1).1
          have l2 : ((ys.toList.drop acc.length).take l.length).length = l.length := by
            rw [CRs_iff] at hy1; rw [hy1.1]; exact (eqCells_len h1).2
          have p1 := run_part (P := P) (w := w) hty xs acc.length _ l1 rfl
          have p2 := run_part (P := P) (w := w) hty ys acc.length _ l2 rfl
          have hne : (f.name ≠ "_") = True := by simpa using hn
          simp only [Op.eqFields, hne, if_true, Sem.run_bind, ho, p1, p2, Result.andThen_ok]
          have e' := e
          simp only [mkv] at e'
          rw [e']
          simp only [Result.andThen_ok]
          cases x
          · simp
          · simpa using hr
        · simp at hk
      · simp at hk
    · simp at hk
theorem eq_sound : ∀ (k : Nat) (t : TypeId) (ks : List Nat), eqKs P k t = some ks → ∀ (d : Nat), k ≤ d → ∀ (vs ws : List Value) (cs ds : List Cell) (b : Bool) (r r' : Root), CRs ω m (fun _ => r) 0 vs cs → CRs ω m (fun _ => r') 0 ws ds → eqCells ks cs ds = some b →
    (Op.equalIn d t (mkv (isStruct P t) vs) (mkv (isStruct P t) ws)).run P w = .ok b w
  | 0, t, ks, h, _, _, _, _, _, _, _, _, _, _, _, _ => by simp [eqKs] at h
  | k + 1, t, ks, h, d, hd, vs, ws, cs, ds, b, r, r', hv, hw, he => by
    obtain ⟨d, rfl⟩ : ∃ d', d = d' + 1 := ⟨d - 1, by omega⟩
    have one : ∀ q, ks = [q] → ∃ v u c e, vs = [v] ∧ ws = [u] ∧ cs = [c] ∧ ds = [e] ∧ CR ω m r v c ∧ CR ω m r' u e ∧ eqCell q c e = some b := by
      intro q hq
      subst hq
      obtain ⟨h1, h2⟩ := eqCells_len he
      match cs, ds, h1, h2, he with
      | [c], [e], _, _, he =>
        match vs, ws, hv, hw with
        | [v], [u], hv, hw => exact ⟨v, u, c, e, rfl, rfl, rfl, rfl, hv.1, hw.1, he⟩
        | [], _, hv, _ => simp [CRs] at hv
        | _ :: _ :: _, _, hv, _ => simp [CRs] at hv
        | [_], [], _, hw => simp [CRs] at hw
        | [_], _ :: _ :: _, _, hw => simp [CRs] at hw
    simp only [eqKs] at h
    split at h
    · rename_i k0 hu
      simp only [Option.some.injEq] at h
      obtain ⟨v, u, c, e, rfl, rfl, rfl, rfl, h1, h2, h3⟩ := one 0 h.symm
      have his : isStruct P t = false := by simp [isStruct, hu]
      simp only [mkv, his, Bool.false_eq_true, if_false, List.headD_cons]
      cases c <;> cases e <;> simp only [eqCell] at h3 <;> try (simp at h3; done)
      split at h3
      · rename_i e; subst e
        simp only [Option.some.injEq] at h3; subst h3
        rw [h1, h2, run_equalIn_int w d t _ k0 _ _ hu]
        congr 1
      · simp at h3
    · rename_i hu
      simp only [Option.some.injEq] at h
      obtain ⟨v, u, c, e, rfl, rfl, rfl, rfl, h1, h2, h3⟩ := one 1 h.symm
      have his : isStruct P t = false := by simp [isStruct, hu]
      simp only [mkv, his, Bool.false_eq_true, if_false, List.headD_cons]
      cases c <;> cases e <;> simp only [eqCell] at h3 <;> try (simp at h3; done)
      simp only [Option.some.injEq] at h3; subst h3
      rw [h1, h2, run_equalIn_bool' w d t _ _ hu]
    · rename_i hu
      simp only [Option.some.injEq] at h
      obtain ⟨v, u, c, e, rfl, rfl, rfl, rfl, h1, h2, h3⟩ := one 2 h.symm
      have his : isStruct P t = false := by simp [isStruct, hu]
      simp only [mkv, his, Bool.false_eq_true, if_false, List.headD_cons]
      cases c <;> cases e <;> simp only [eqCell] at h3 <;> try (simp at h3; done)
      simp only [Option.some.injEq] at h3; subst h3
      rw [h1, h2, run_equalIn_string w d t _ _ hu]
      congr 1
      rename_i x y
      by_cases e : x = y
      · subst e; simp
      · rw [decide_eq_false e]
        have : x.toList ≠ y.toList := fun h => e (by
          rw [ByteArray.toList_eq, ByteArray.toList_eq] at h
          obtain ⟨a⟩ := x
          obtain ⟨b⟩ := y
          have : a = b := Array.ext' h
          rw [this])
        simpa using this
    · rename_i fs hu
      split at h
      · rename_i hp
        have his : isStruct P t = true := by simp [isStruct, hu]
        have hfo : P.fieldsOf t = fs := by simp [Program.fieldsOf, hu]
        simp only [mkv, his, if_true]
        rw [run_equalIn_struct w d t _ _ (by rw [hfo]; exact hu) hp, hfo]
        have hl := eqCells_len he
        exact (eqf_sound (P := P) (w := w) (fun t l hl => eq_sound k t l hl d (by omega)) (xs := vs.toArray) (ys := ws.toArray) (by simpa using hv) (by simpa using hw) fs.toList [] ks b h hl.1.symm).2 (by simpa using he)
      · simp at h
    · simp at h
end
section
variable {P : Program} {ω : Nat → Lab} {m : Mc} {st : St} {o : Oper} {a : Act}
theorem rd_len {w : World} {sz : Nat} {rows : List (List D)} {Q : BP} {v : Value} (h : rd w (.lst sz rows) Q v) : ∃ aa cap, v = .slice aa rows.length cap := by
  obtain ⟨aa, cap, hv, _⟩ := h; exact ⟨aa, cap, hv⟩
theorem q_len {str : Bool} {x : XO} {y : SV} (h : RR ω m st) (ha : a.tmps = m.T) (hm : mQ P o (.len str x) = true) (hq : qop st (.len str x) = some y) : QOk P ω m st o a y := by
  simp only [mQ] at hm
  split at hm
  · rename_i args argTypes hz
    split at hm
    · rename_i z t hargs htys
      simp only [Bool.and_eq_true] at hm
      obtain ⟨hx, ht⟩ := hm
      have hargs' : args = #[z] := Array.ext' hargs
      have htys' : argTypes = #[t] := Array.ext' htys
      subst hargs'; subst htys'
      simp only [qop] at hq
      split at hq
      · rename_i s hc
        rw [one_inj hq]
        have es := eval_str h ha hx hc
        simp only [if_true] at ht
        exact ⟨_, by simp [execOp, hz, resolve, invoke, builtin, Builtin.len_, run_underlying (ty_str ht), es, goInt]; try rfl, fun r => one_sound rfl rfl, one_al (by simp [Cell.places])⟩
      · rename_i hc
        split at hq
        · rename_i sz rows hrows
          rw [one_inj hq]
          have hcr := c1_of h ha hx rfl (rowsOf_ne hrows) (fun _ => .res 0)
          obtain ⟨aa, cap, hv⟩ := rd_len (rowsOf_sound h hcr.1 hrows)
          simp only [Bool.false_eq_true, if_false] at ht
          split at ht
          · rename_i e hu
            exact ⟨_, by simp [execOp, hz, resolve, invoke, builtin, Builtin.len_, run_underlying hu, hv, goInt]; try rfl, fun r => one_sound rfl rfl, one_al (by simp [Cell.places])⟩
          · simp at ht
        · simp at hq
      · simp at hq
    · simp at hm
  · simp at hm
theorem q_mm {mx : Bool} {x z' : XO} {y : SV} (h : RR ω m st) (ha : a.tmps = m.T) (hm : mQ P o (.mm mx x z') = true) (hq : qop st (.mm mx x z') = some y) : QOk P ω m st o a y := by
  simp only [mQ] at hm
  split at hm
  · rename_i b args tys hz
    split at hm
    · rename_i x1 x2 hargs
      simp only [Bool.and_eq_true, decide_eq_true_eq] at hm
      obtain ⟨⟨hb, hx⟩, hy⟩ := hm
      have hargs' : args = #[x1, x2] := Array.ext' hargs
      subst hargs'
      simp only [qop] at hq
      split at hq
      · rename_i k1 n1 k2 n2 hc1 hc2
        split at hq
        · rename_i hk; subst hk
          rw [one_inj hq]
          have e1 := eval_int h ha hx hc1
          have e2 := eval_int h ha hy hc2
          cases mx with
          | true =>
            simp only [if_true] at hb; subst hb
            exact ⟨_, by simp [execOp, hz, resolve, invoke, builtin, Builtin.max_, Builtin.max2, e1, e2]; try rfl, fun r => one_sound rfl rfl, one_al (by simp [Cell.places])⟩
          | false =>
            simp only [Bool.false_eq_true, if_false] at hb; subst hb
            exact ⟨_, by simp [execOp, hz, resolve, invoke, builtin, Builtin.min_, Builtin.min2, e1, e2]; try rfl, fun r => one_sound rfl rfl, one_al (by simp [Cell.places])⟩
        · simp at hq
      · simp at hq
    · simp at hm
  · simp at hm
theorem CRl_of : ∀ (cs : List Cell) (vs : List Value) (r : Root) (j : Nat), CRs ω m (fun _ => r) j vs cs → cs.any Cell.isOwn = false → CRl ω m cs r vs
  | [], [], _, _, _, _ => rfl
  | [], _ :: _, _, _, h, _ => by simp [CRs] at h
  | _ :: _, [], _, _, h, _ => by simp [CRs] at h
  | c :: cs, v :: vs, r, j, h, ho => by
    simp only [List.any_cons, Bool.or_eq_false_iff] at ho
    exact ⟨v, vs, rfl, ho.1, h.1, CRl_of cs vs r (j + 1) h.2 ho.2⟩
theorem svCell_sound {z : Operand} {x : XO} (h : RR ω m st) (ha : a.tmps = m.T) (ho : mO z x = true) (r : Root) :
    CRx ω m (svCell (evX st x)) r (a.eval z) := by
  have hev := evX_sound h ha ho (fun _ => r)
  generalize evX st x = y at hev ⊢
  obtain ⟨sh, cs⟩ := y
  unfold svCell
  cases sh with
  | no => trivial
  | tup _ => trivial
  | one =>
    cases cs with
    | nil => trivial
    | cons c cs => cases cs with
      | cons _ _ => trivial
      | nil =>
        obtain ⟨h1, h2⟩ := hev
        simp only [shOk] at h1
        rw [flatV_single h1] at h2
        exact h2.1
  | agg =>
    obtain ⟨⟨arr, harr⟩, h2⟩ := hev
    rw [harr] at h2 ⊢
    cases hany : cs.any Cell.isOwn with
    | true => simp only [hany, if_true]; trivial
    | false =>
      simp only [hany, Bool.false_eq_true, if_false]
      exact ⟨arr, rfl, CRl_of cs _ r 0 h2 hany⟩
theorem svCell_places {z : Operand} {x : XO} (h : RR ω m st) (ho : mO z x = true) : ∀ p ∈ (svCell (evX st x)).places, (rootCell st p.r).isOwn = true := by
  intro p hp
  have hal := evX_alOk (st := st) h ho
  generalize evX st x = y at hal hp
  obtain ⟨sh, cs⟩ := y
  unfold svCell at hp
  cases sh with
  | no => simp [Cell.places] at hp
  | tup _ => simp [Cell.places] at hp
  | one =>
    cases cs with
    | nil => simp [Cell.places] at hp
    | cons c cs => cases cs with
      | cons _ _ => simp [Cell.places] at hp
      | nil => exact hal 0 p (by simpa [SV.get] using hp)
  | agg =>
    cases hany : cs.any Cell.isOwn with
    | true => simp [hany, Cell.places] at hp
    | false =>
      simp only [hany, Bool.false_eq_true, if_false, Cell.places] at hp
      have : ∀ (ds : List Cell), p ∈ placesL ds → ∃ c ∈ ds, p ∈ c.places := by
        intro ds
        induction ds with
        | nil => intro h; simp [placesL] at h
        | cons d ds ih =>
          intro h
          simp only [placesL, List.mem_append] at h
          rcases h with h | h
          · exact ⟨d, by simp, h⟩
          · obtain ⟨c, hc, hp⟩ := ih h; exact ⟨c, by simp [hc], hp⟩
      obtain ⟨c, hc, hp'⟩ := this cs hp
      exact alOk_mem (x := ⟨.agg, cs⟩) (by simp) hal c hc p hp'
theorem mOs_CRl : ∀ (zs : List Operand) (xs : List XO) (r : Root), RR ω m st → a.tmps = m.T → mOs zs xs = true → xs.all (fun x => !(svCell (evX st x)).isOwn) = true →
    CRl ω m (xs.map fun x => svCell (evX st x)) r (zs.map a.eval) ∧ ∀ p ∈ placesL (xs.map fun x => svCell (evX st x)), (rootCell st p.r).isOwn = true
  | [], [], r, _, _, _, _ => ⟨rfl, by simp [placesL]⟩
  | [], _ :: _, _, _, _, h, _ => by simp [mOs] at h
  | _ :: _, [], _, _, _, h, _ => by simp [mOs] at h
  | z :: zs, x :: xs, r, h, ha, hm, ho => by
    simp only [mOs, Bool.and_eq_true] at hm
    simp only [List.all_cons, Bool.and_eq_true, Bool.not_eq_true'] at ho
    obtain ⟨h1, h2⟩ := mOs_CRl zs xs r h ha hm.2 ho.2
    refine ⟨⟨_, _, rfl, ho.1, svCell_sound h ha hm.1 r, h1⟩, fun p hp => ?_⟩
    simp only [List.map_cons, placesL, List.mem_append] at hp
    rcases hp with hp | hp
    · exact svCell_places h hm.1 p hp
    · exact h2 p hp
theorem q_mkf {f : Fn} {fi ca : List XO} {y : SV} (h : RR ω m st) (ha : a.tmps = m.T) (hm : mQ P o (.mkf f fi ca) = true) (hq : qop st (.mkf f fi ca) = some y) : QOk P ω m st o a y := by
  simp only [mQ] at hm
  split at hm
  · rename_i f' fi' ca' hz
    simp only [Bool.and_eq_true, decide_eq_true_eq] at hm
    obtain ⟨⟨rfl, h1⟩, h2⟩ := hm
    simp only [qop] at hq
    split at hq
    · rename_i hall
      simp only [List.all_append, Bool.and_eq_true] at hall
      rw [one_inj hq]
      refine ⟨.func f' (fi'.map a.eval) (ca'.map a.eval), by simp [execOp, hz, Instr.makeFunc], fun r => one_sound rfl ⟨_, _, rfl, ?_, ?_⟩, one_al fun p hp => ?_⟩
      · rw [Array.toList_map]; exact (mOs_CRl _ _ _ h ha h1 hall.1).1
      · rw [Array.toList_map]; exact (mOs_CRl _ _ _ h ha h2 hall.2).1
      · simp only [Cell.places, List.mem_append] at hp
        rcases hp with hp | hp
        · exact (mOs_CRl _ _ (.res 0) h ha h1 hall.1).2 p hp
        · exact (mOs_CRl _ _ (.res 0) h ha h2 hall.2).2 p hp
    · simp at hq
  · simp at hm
theorem q_slc0 {sz : Nat} {x : XO} {y : SV} (h : RR ω m st) (ha : a.tmps = m.T) (hm : mQ P o (.slc0 sz x) = true) (hq : qop st (.slc0 sz x) = some y) : QOk P ω m st o a y := by
  simp only [mQ] at hm
  split at hm
  · rename_i t z k1 k2 hz
    simp only [Bool.and_eq_true] at hm
    obtain ⟨hx, ht⟩ := hm
    obtain ⟨e, i, hu, hi, hsi⟩ := ty_slice ht
    simp only [qop] at hq
    split at hq
    · rename_i sr hrows
      obtain ⟨sz', rows⟩ := sr
      rw [one_inj hq]
      have hcr := c1_of h ha hx rfl (rowsOf_ne hrows) (fun _ => .res 0)
      obtain ⟨aa, cap, hv⟩ := rd_len (rowsOf_sound h hcr.1 hrows)
      have b0 := fun c => run_sliceBound (P := P) (k := k2) (n := 0) (y := cap) (c := c) (w := m.w) (by omega) (by omega)
      have b1 := fun c => run_sliceBound (P := P) (k := k1) (n := 0) (y := 0) (c := c) (w := m.w) (by omega) (by omega)
      refine ⟨.slice aa 0 0, ?_, fun r => one_sound rfl ⟨aa, 0, rfl, Nat.le_refl _, by simp, .inl rfl⟩, one_al (by simp [Cell.places])⟩
      simp only [Int.toNat_zero] at b0 b1
      have ec : ∀ k, a.eval (.const (.int k 0)) = .int k 0 := fun _ => rfl
      simp [execOp, hz, Instr.sliceAt, Instr.slice, run_underlying hu, hv, Instr.sliceBounds, ec, b0, b1, run_sizeOf hi]
    · simp at hq
  · simp at hm
theorem q_eqs {ne : Bool} {ks : List Nat} {x z : XO} {y : SV} (h : RR ω m st) (ha : a.tmps = m.T) (hm : mQ P o (.eqs ne ks x z) = true) (hq : qop st (.eqs ne ks x z) = some y) : QOk P ω m st o a y := by
  simp only [mQ] at hm
  split at hm
  · rename_i op' t x' z' _ hz
    simp only [Bool.and_eq_true, decide_eq_true_eq, Bool.not_eq_true'] at hm
    obtain ⟨⟨⟨⟨⟨rfl, hx⟩, hz'⟩, hst⟩, hks⟩, hgu⟩ := hm
    simp only [qop] at hq
    split at hq
    · rename_i hs1 hs2
      split at hq
      · rename_i b hb
        rw [one_inj hq]
        have v1 := (SVR_iff (by rw [hs1]; simp)).1 (evX_sound h ha hx (fun _ => .res 0))
        have v2 := (SVR_iff (by rw [hs2]; simp)).1 (evX_sound h ha hz' (fun _ => .res 0))
        rw [hs1] at v1; rw [hs2] at v2
        obtain ⟨⟨arr1, e1⟩, c1⟩ := v1
        obtain ⟨⟨arr2, e2⟩, c2⟩ := v2
        rw [e1] at c1; rw [e2] at c2
        have he := eq_sound (P := P) (w := m.w) 8 t ks hks 10000 (by omega) arr1.toList arr2.toList _ _ b _ _ c1 c2 hb
        simp only [mkv, hst, if_true] at he
        refine ⟨.bool (if ne then !b else b), ?_, fun r => one_sound rfl rfl, one_al (by simp [Cell.places])⟩
        cases ne
        · simp only [execOp, hz, e1, e2, Bool.false_eq_true, if_false, Sem.run_bind, run_eqGuard_agg m.w _ t _ _ _ _ hgu, Result.andThen_ok, run_eql_struct]
          simp [he]
        · simp only [execOp, hz, e1, e2, if_true, Sem.run_bind, run_eqGuard_agg m.w _ t _ _ _ _ hgu, Result.andThen_ok, run_neq_struct]
          simp [he]
      · simp at hq
    · simp at hq
  · simp at hm
theorem q_sound {xo : XOp} {y : SV} (h : RR ω m st) (ha : a.tmps = m.T) (hm : mQ P o xo = true) (hq : qop st xo = some y) : QOk P ω m st o a y := by
  cases xo with
  | mv x => exact q_mv h ha hm hq
  | pick c b d => exact q_pick h ha hm hq
  | load ag n x => exact q_load h ha hm hq
  | nilc x => exact q_nilc h ha hm hq
  | bin op x z => exact q_bin h ha hm hq
  | eqs ne ks x z => exact q_eqs h ha hm hq
  | binB ne x z => exact q_binB h ha hm hq
  | un op x => exact q_un h ha hm hq
  | convI k x => exact q_convI h ha hm hq
  | b2s x => exact q_b2s h ha hm hq
  | slcS x lo hi => exact q_slcS h ha hm hq
  | slcR sz x lo hi => exact q_slcR h ha hm hq
  | slc0 sz x => exact q_slc0 h ha hm hq
  | fad off x => exact q_fad h ha hm hq
  | fld ag off n x => exact q_fld h ha hm hq
  | iad sz x i => exact q_iad h ha hm hq
  | idx x i => exact q_idx h ha hm hq
  | ext i x => exact q_ext h ha hm hq
  | len s x => exact q_len h ha hm hq
  | mm mx x z => exact q_mm h ha hm hq
  | mkf f fi ca => exact q_mkf h ha hm hq
  | _ => simp [qop] at hq
end
def setCellAt (sz : Nat) (rows : List (List D)) (o : Nat) (d : D) : List (List D) := rows.modify (o / sz) (fun r => r.set (o % sz) d)
def updAt : Nat → List (List D) → Path → D → List (List D)
  | _, rows, [], _ => rows
  | sz, rows, [o], d => setCellAt sz rows o d
  | sz, rows, o :: p, d => match cellAt sz rows o with
    | some (.lst sz' rows') => setCellAt sz rows o (.lst sz' (updAt sz' rows' p d))
    | _ => rows
theorem flat_cellAt {sz : Nat} {rows : List (List D)} (hsz : 0 < sz) (hr : ∀ r ∈ rows, r.length = sz) (j : Nat) : rows.flatten[j]? = cellAt sz rows j := by
  have := flatten_get (sz := sz) rows (j / sz) (j % sz) hr (Nat.mod_lt _ hsz)
  rw [show j / sz * sz + j % sz = j by rw [Nat.mul_comm]; exact Nat.div_add_mod j sz] at this
  exact this
theorem cellAt_pos {sz : Nat} {rows : List (List D)} {o : Nat} {d : D} (hr : ∀ r ∈ rows, r.length = sz) (h : cellAt sz rows o = some d) : 0 < sz := by
  unfold cellAt at h
  rw [Option.bind_eq_some_iff] at h
  obtain ⟨r, h1, h2⟩ := h
  have hlen := hr r (List.mem_of_getElem? h1)
  have hlt : o % sz < r.length := (List.getElem?_eq_some_iff.1 h2).1
  omega
theorem setCellAt_len {sz : Nat} {rows : List (List D)} {o : Nat} {d : D} (hr : ∀ r ∈ rows, r.length = sz) : ∀ r ∈ setCellAt sz rows o d, r.length = sz := by
  intro r hm
  obtain ⟨i, hi⟩ := List.mem_iff_getElem?.1 hm
  simp only [setCellAt, List.getElem?_modify] at hi
  cases hg : rows[i]? with
  | none => simp [hg] at hi
  | some x =>
    have hx := hr x (List.mem_of_getElem? hg)
    simp only [hg, Option.map_eq_map, Option.map_some, Option.some.injEq] at hi
    subst hi
    split <;> simp [hx]
theorem setCellAt_length {sz : Nat} {rows : List (List D)} {o : Nat} {d : D} : (setCellAt sz rows o d).length = rows.length := by simp [setCellAt]
theorem cellAt_set {sz : Nat} {rows : List (List D)} {o j : Nat} {d : D} (hsz : 0 < sz) :
    cellAt sz (setCellAt sz rows o d) j = if o = j then (cellAt sz rows o).map (fun _ => d) else cellAt sz rows j := by
  unfold cellAt setCellAt
  simp only [List.getElem?_modify]
  by_cases h : o = j
  · subst h
    simp only [if_true]
    cases rows[o / sz]? with
    | none => simp
    | some r =>
      simp only [Option.map_eq_map, Option.map_some, Option.bind_some, List.getElem?_set, if_true]
      by_cases h2 : o % sz < r.length
      · simp [h2]
      · simp [h2]
  · simp only [h, if_false]
    by_cases h1 : o / sz = j / sz
    · have h2 : o % sz ≠ j % sz := fun e => h (by rw [← Nat.div_add_mod o sz, ← Nat.div_add_mod j sz, h1, e])
      rw [h1]
      simp only [if_true]
      cases rows[j / sz]? with
      | none => simp
      | some r => simp [List.getElem?_set, h2]
    · simp only [h1, if_false]
      cases rows[j / sz]? <;> simp
theorem updAt_length : ∀ (p : Path) (sz : Nat) (rows : List (List D)) (d : D), (updAt sz rows p d).length = rows.length
  | [], _, _, _ => rfl
  | [o], _, _, _ => setCellAt_length
  | o :: o' :: p, sz, rows, d => by
    simp only [updAt]
    split
    · exact setCellAt_length
    · rfl
theorem updAt_len : ∀ (p : Path) (sz : Nat) (rows : List (List D)) (d : D), (∀ r ∈ rows, r.length = sz) → ∀ r ∈ updAt sz rows p d, r.length = sz
  | [], _, _, _, h => h
  | [o], _, _, _, h => setCellAt_len h
  | o :: o' :: p, sz, rows, d, h => by
    simp only [updAt]
    split
    · exact setCellAt_len h
    · exact h
theorem rd_setCell {w w' : World} {sz : Nat} {rows : List (List D)} {Q Q' : BP} {v : Value} {o : Nat} {d d' : D}
    (h : rd w (.lst sz rows) Q v) (hc : cellAt sz rows o = some d)
    (hhead : ∀ ad n cap arr elem fz u, v = .slice (some ad) n cap → ad.spot = none → w.heap[ad.block]? = some (.cells arr elem fz) → Q [] ad (cap * sz) arr fz → arr[ad.off + o]? = some u →
      rd w d (fun q => Q (o :: q)) u →
      ∃ arr' u', w'.heap[ad.block]? = some (.cells arr' elem fz) ∧ Q' [] ad (cap * sz) arr' fz ∧ arr'[ad.off + o]? = some u' ∧ (∀ j, j ≠ o → arr'[ad.off + j]? = arr[ad.off + j]?) ∧ rd w' d' (fun q => Q' (o :: q)) u')
    (hrest : ∀ j, j ≠ o → Carries w w' (fun q => Q (j :: q)) (fun q => Q' (j :: q))) :
    rd w' (.lst sz (setCellAt sz rows o d')) Q' v := by
  obtain ⟨ad, n, cap, arr, elem, fz, u, hv, hs, hh, hq, hu, hrd⟩ := rd_lst h hc
  obtain ⟨arr', u', hh', hq', hu', hoth, hrd'⟩ := hhead ad n cap arr elem fz u hv hs hh hq hu hrd
  obtain ⟨a, cap0, hv0, hle, hr, hm⟩ := h
  have hsz := cellAt_pos hr hc
  rw [hv] at hv0
  injection hv0 with e1 e2 e3
  subst e3; subst e1
  refine ⟨some ad, cap, by rw [hv, e2, setCellAt_length], by rw [setCellAt_length]; exact hle, setCellAt_len hr, .inr ⟨ad, arr', elem, fz, rfl, hs, hh', hq', ?_⟩⟩
  rcases hm with h0 | ⟨ad', arr1, elem1, fz1, e, _, hh1, _, hrw⟩
  · subst h0
    have : rows = [] := List.eq_nil_of_length_eq_zero (by omega)
    subst this; simp [cellAt] at hc
  · injection e with e; subst e
    rw [hh] at hh1; injection hh1 with e; injection e with e _ _; subst e
    rw [rdRows_flat, rdCs_iff] at hrw ⊢
    intro j x hx
    rw [flat_cellAt hsz (setCellAt_len hr), cellAt_set hsz] at hx
    by_cases hj : o = j
    · subst hj
      simp only [if_true, hc, Option.map_some, Option.some.injEq] at hx
      subst hx
      exact ⟨u', by simpa using hu', by simpa using hrd'⟩
    · simp only [hj, if_false] at hx
      obtain ⟨y, hy, hry⟩ := hrw j x (by rw [flat_cellAt hsz hr]; exact hx)
      simp only [Nat.zero_add] at hy hry ⊢
      exact ⟨y, by rw [hoth j (fun e => hj e.symm)]; exact hy, rd_carry _ _ _ _ (hrest j (fun e => hj e.symm)) hry⟩
theorem rd_gone {w : World} : ∀ (p : Path) (sz : Nat) (rows : List (List D)) (Q : BP) (v : Value) (x : D), p ≠ [] → rd w (.lst sz rows) Q v →
    (∃ q o sz' rows', p = q ++ [o] ∧ pathRows sz rows q = some (sz', rows') ∧ cellAt sz' rows' o = some x) →
    rd w (.lst sz (updAt sz rows p .gone)) (fun q ad m arr fz => Q q ad m arr fz ∧ ¬ p <+: q) v
  | [], _, _, _, _, _, hne, _, _ => absurd rfl hne
  | [o], sz, rows, Q, v, x, _, h, hx => by
    obtain ⟨q, o', sz', rows', h1, h2, h3⟩ := hx
    have hq : q = [] := by cases q with
      | nil => rfl
      | cons a q => simp at h1
    subst hq
    simp only [List.nil_append, List.cons.injEq, and_true] at h1
    subst h1
    simp only [pathRows, Option.some.injEq, Prod.mk.injEq] at h2
    obtain ⟨rfl, rfl⟩ := h2
    refine rd_setCell h h3 (fun ad n cap arr elem fz u hv hs hh hq hu hrd => ⟨arr, u, hh, ⟨hq, by simp⟩, hu, fun _ _ => rfl, trivial⟩) (fun j hj => ?_)
    intro q ad m arr elem fz hh hq
    exact ⟨hh, hq, fun hp => hj (by rw [List.cons_prefix_cons] at hp; exact hp.1.symm)⟩
  | o :: o' :: p, sz, rows, Q, v, x, _, h, hx => by
    obtain ⟨q, ol, sz', rows', h1, h2, h3⟩ := hx
    cases q with
    | nil => simp at h1
    | cons a q =>
      simp only [List.cons_append, List.cons.injEq] at h1
      obtain ⟨rfl, h1⟩ := h1
      simp only [pathRows] at h2
      split at h2
      · rename_i sz1 rows1 hc
        simp only [updAt, hc]
        refine rd_setCell h hc (fun ad n cap arr elem fz u hv hs hh hq hu hrd => ⟨arr, u, hh, ⟨hq, by simp⟩, hu, fun _ _ => rfl, ?_⟩) (fun j hj => ?_)
        · refine rd_carry _ _ _ _ (fun q' ad' m' arr' elem' fz' hh' hq' => ⟨hh', hq'.1, fun hp => hq'.2 ?_⟩) (rd_gone (o' :: p) sz1 rows1 (fun q => Q (o :: q)) u x (by simp) hrd ⟨q, ol, sz', rows', h1, h2, h3⟩)
          simpa using hp
        · intro q' ad m arr elem fz hh hq
          exact ⟨hh, hq, fun hp => hj (by have := hp; rw [List.cons_prefix_cons] at this; exact this.1.symm)⟩
      · simp at h2
def hitN (r : Root) (n : Nat) (c : Cell) : Bool := c.places.any fun p => decide (p.r = r) && decide (n ≤ p.p.length)
theorem hitN_own {r : Root} {n : Nat} {c : Cell} (h : c.isOwn = true) : hitN r n c = false := by simp [hitN, Cell.own_places h]
theorem hitN_not {r : Root} {n : Nat} {c : Cell} (h : hitN r n c = false) {p : Pl} (hp : p ∈ c.places) : p.r ≠ r ∨ p.p.length < n := by
  simp only [hitN, List.any_eq_false] at h
  have := h p hp
  simp only [Bool.and_eq_true, decide_eq_true_eq, not_and, Nat.not_le] at this
  by_cases hr : p.r = r
  · exact .inr (this hr)
  · exact .inl hr
def moveOut (st : St) (p : Pl) : Option (Nat × List (List D) × St) :=
  match rootCell st p.r with
  | .own sz0 rows0 => match pathRows sz0 rows0 p.p with
    | some (sz, rows) => some (sz, rows, setRoot (st.filt (hitN p.r p.p.length)) p.r (match p.p with
      | [] => .undef
      | _ => .own sz0 (updAt sz0 rows0 p.p .gone)))
    | none => none
  | _ => none
theorem pathRows_snoc : ∀ (p : Path) (sz : Nat) (rows : List (List D)) (x : Nat × List (List D)), p ≠ [] → pathRows sz rows p = some x →
    ∃ q o sz' rows' d, p = q ++ [o] ∧ pathRows sz rows q = some (sz', rows') ∧ cellAt sz' rows' o = some d
  | [], _, _, _, h, _ => absurd rfl h
  | o :: p, sz, rows, x, _, h => by
    simp only [pathRows] at h
    split at h
    · rename_i sz1 rows1 hc
      cases p with
      | nil => exact ⟨[], o, sz, rows, _, rfl, rfl, hc⟩
      | cons o' p =>
        obtain ⟨q, ol, sz', rows', d, h1, h2, h3⟩ := pathRows_snoc (o' :: p) sz1 rows1 x (by simp) h
        exact ⟨o :: q, ol, sz', rows', d, by rw [h1]; rfl, by simp only [pathRows, hc]; exact h2, h3⟩
    · simp at h
def relab (ω : Nat → Lab) (p : Pl) (d : Root) (dp : Path) : Nat → Lab := fun b => match ω b with
  | .at r q => if r = p.r ∧ p.p <+: q then .at d (dp ++ q.drop p.p.length) else .at r q
  | l => l
theorem relab_frame {ω : Nat → Lab} {p : Pl} {d : Root} {dp : Path} {b : Nat} : relab ω p d dp b = .frame ↔ ω b = .frame := by
  unfold relab
  cases h : ω b <;> simp
  split <;> simp
theorem relab_blk {ω : Nat → Lab} {p : Pl} {d : Root} {dp : Path} {b k : Nat} (h : ω b = .blk k) : relab ω p d dp b = .blk k := by simp [relab, h]
theorem relab_other {ω : Nat → Lab} {p : Pl} {d r : Root} {dp q : Path} {b : Nat} (h : ω b = .at r q) (hn : ¬ (r = p.r ∧ p.p <+: q)) : relab ω p d dp b = .at r q := by simp [relab, h, hn]
theorem relab_in {ω : Nat → Lab} {p : Pl} {d : Root} {dp q : Path} {b : Nat} (h : ω b = .at p.r (p.p ++ q)) : relab ω p d dp b = .at d (dp ++ q) := by
  simp [relab, h]
section
variable {ω : Nat → Lab} {m : Mc} {st : St}
theorem moveOut_rows {p : Pl} {sz : Nat} {rows : List (List D)} {st' : St} (h : moveOut st p = some (sz, rows, st')) : rowsAt st p = some (sz, rows) := by
  unfold moveOut at h; unfold rowsAt
  split at h
  · rename_i sz0 rows0 hc
    split at h
    · rename_i sz1 rows1 hp
      simp only [Option.some.injEq, Prod.mk.injEq] at h
      obtain ⟨rfl, rfl, _⟩ := h
      first | (simp only [hc]; exact hp) | exact hp
    · simp at h
  · simp at h
theorem R_relab {p : Pl} {d : Root} {dp : Path} (h : RR ω m st) (hno : (rootCell st p.r).isOwn = false ∨ True) :
    R (relab ω p d dp) m ((setRoot st p.r .undef).filt (hitN p.r p.p.length)) := by
  have h0 : R ω m (setRoot st p.r .undef) := h.r.drop p.r
  refine h0.move (hitN p.r p.p.length) (fun s => .inl rfl) rfl (fun r v c hc hne hf hcr => ?_) (fun k hk => ⟨rfl, fun arr elem hb hh => ⟨hh, relab_blk hb⟩⟩)
  refine hcr.keep (fun b x hx hb => ⟨hx, relab_frame.2 hb⟩) (fun ho q b x hx hb => ⟨hx, ?_⟩) (fun _ _ => rfl) (fun p' hp' => ⟨fun v0 h => h, fun q hw b x hx hb => ⟨hx, ?_⟩⟩)
  · refine relab_other hb (fun ⟨e, _⟩ => ?_)
    subst e
    rw [rootCell_setRoot] at hc
    split at hc
    · subst hc; simp at hne
    · rename_i hh
      simp only [true_and, Bool.not_eq_true] at hh
      have := hasRoot_of_cell (st := st) (r := p.r) (by rw [hc]; exact hne)
      rw [hh] at this; simp at this
  · rcases hitN_not hf hp' with h1 | h1
    · exact relab_other hb (fun ⟨e, _⟩ => h1 e)
    · refine relab_other hb (fun ⟨_, hpre⟩ => ?_)
      obtain ⟨_, t, ht0, ht⟩ := hw
      have hl := hpre.length_le
      have : p'.p.length = q.length + t.length := by rw [ht, List.length_append]
      omega
theorem filt_setRoot (f : Cell → Bool) (r : Root) : (setRoot st r .undef).filt f = setRoot (st.filt f) r .undef := by
  have hset : ∀ (c : Nat) (v : SV), (v.set c .undef).filt f = (v.filt f).set c .undef := by
    intro c v
    simp only [SV.set, SV.filt, List.map_set]
    congr 1; congr 1
    simp [Cell.filt]
  have hupd : ∀ (l : Slots) (s c : Nat), mapS (updS l s (SV.set c .undef)) (SV.filt f) = updS (mapS l (SV.filt f)) s (SV.set c .undef) := by
    intro l s c
    induction l with
    | nil => rfl
    | cons x l ih =>
      obtain ⟨j, v⟩ := x
      simp only [updS, mapS, List.map_cons]
      by_cases h : j = s
      · simp [h, hset]
      · simp only [h, if_false, List.map_cons, List.cons.injEq, true_and]; exact ih
  have hupdR : ∀ (l : Refs) (s c : Nat), mapR (updR l s (·.set c .undef)) (fun cs => cs.map (Cell.filt f)) = updR (mapR l (fun cs => cs.map (Cell.filt f))) s (·.set c .undef) := by
    intro l s c
    induction l with
    | nil => rfl
    | cons x l ih =>
      obtain ⟨j, v⟩ := x
      simp only [updR, mapR, List.map_cons]
      by_cases h : j = s
      · simp [h, List.map_set, Cell.filt]
      · simp only [h, if_false, List.map_cons, List.cons.injEq, true_and]; exact ih
  cases r <;> simp [setRoot, St.filt, hupd, hupdR]
theorem updS_updS (l : Slots) (s c : Nat) (x y : Cell) : updS (updS l s (SV.set c x)) s (SV.set c y) = updS l s (SV.set c y) := by
  induction l with
  | nil => rfl
  | cons z l ih =>
    obtain ⟨j, v⟩ := z
    by_cases h : j = s
    · simp [updS, h, SV.set]
    · simp [updS, h, ih]
theorem updR_updR (l : Refs) (s c : Nat) (x y : Cell) : updR (updR l s (·.set c x)) s (·.set c y) = updR l s (·.set c y) := by
  induction l with
  | nil => rfl
  | cons z l ih =>
    obtain ⟨j, v⟩ := z
    by_cases h : j = s
    · simp [updR, h]
    · simp [updR, h, ih]
theorem setRoot_setRoot (st : St) (r : Root) (x y : Cell) : setRoot (setRoot st r x) r y = setRoot st r y := by
  cases r <;> simp [setRoot, updS_updS, updR_updR]
theorem moveOut_sound {p : Pl} {v : Value} {sz : Nat} {rows : List (List D)} {st' : St} (d : Root) (dp : Path) (h : RR ω m st) (hv : hd ω m p v) (hm : moveOut st p = some (sz, rows, st')) :
    RR (relab ω p d dp) m st' ∧ rd m.w (.lst sz rows) (Qown (relab ω p d dp) d dp) v := by
  have hrows := moveOut_rows hm
  have hrd := h.at hrows hv
  have hown : rd m.w (.lst sz rows) (Qown (relab ω p d dp) d dp) v := rd_carry _ _ _ _ (Carries.own (fun q b x hx hb => ⟨hx, by rw [relab_in hb]⟩)) hrd
  refine ⟨?_, hown⟩
  unfold moveOut at hm
  split at hm
  · rename_i sz0 rows0 hc
    split at hm
    · rename_i sz1 rows1 hp
      simp only [Option.some.injEq, Prod.mk.injEq] at hm
      obtain ⟨rfl, rfl, hst⟩ := hm
      have hR := R_relab (d := d) (dp := dp) (p := p) h (.inr trivial)
      have hhas : hasRoot st p.r = true := hasRoot_of_cell (by rw [hc]; simp)
      have hhas' : hasRoot (st.filt (hitN p.r p.p.length)) p.r = true := hasRoot_of_cell (by
        rw [rootCell_filt, hc]
        simp [Cell.filt, hitN, Cell.places])
      have hal : AlOk (st.filt (hitN p.r p.p.length)) := h.al.filt (fun c hc => hitN_own hc)
      rw [filt_setRoot] at hR
      cases hpp : p.p with
      | nil =>
        rw [hpp] at hst hR hal
        simp only at hst
        subst hst
        refine ⟨hR, fun r p' hp' => ?_⟩
        rw [rootCell_setRoot] at hp' ⊢
        split at hp'
        · simp [Cell.places] at hp'
        · have ho := hal r p' hp'
          split
          · rename_i hh
            -- an alias of the root that was taken
            rw [rootCell_filt] at hp'
            obtain ⟨hf, hpl⟩ := Cell.filt_place hp'
            rcases hitN_not hf hpl with h1 | h1
            · exact absurd hh.1.symm h1
            · simp at h1
          · exact ho
      | cons o q =>
        rw [hpp] at hst
        simp only at hst
        subst hst
        obtain ⟨v0, h0, h1⟩ := h.r.cell (r := p.r) (by rw [hc]; simp)
        rw [hc] at h1
        obtain ⟨q', ol, sz', rows', x, e1, e2, e3⟩ := pathRows_snoc p.p sz0 rows0 (sz1, rows1) (by rw [hpp]; simp) hp
        have hg := rd_gone p.p sz0 rows0 _ v0 x (by rw [hpp]; simp) h1 ⟨q', ol, sz', rows', e1, e2, e3⟩
        have hnew : CR (relab ω p d dp) m p.r v0 (.own sz0 (updAt sz0 rows0 (o :: q) .gone)) := by
          rw [← hpp]
          refine rd_carry _ _ _ _ (fun q2 ad m2 arr elem fz hh hq2 => ⟨hh, ?_⟩) hg
          obtain ⟨⟨a1, a2, a3⟩, a4⟩ := hq2
          exact ⟨by rw [relab_other a1 (fun hx => a4 (by simpa using hx.2))], a2, a3⟩
        have hR2 : R (relab ω p d dp) m (setRoot (setRoot (st.filt (hitN p.r p.p.length)) p.r .undef) p.r (.own sz0 (updAt sz0 rows0 (o :: q) .gone))) :=
          hR.setRoot (fun u hu => by rw [h0] at hu; injection hu with hu; subst hu; exact hnew)
        rw [setRoot_setRoot] at hR2
        have hlen : (o :: q).length = p.p.length := by rw [hpp]
        rw [hlen]
        refine ⟨hR2, fun r p' hp' => ?_⟩
        rw [rootCell_setRoot] at hp' ⊢
        split at hp'
        · simp [Cell.places] at hp'
        · have ho := hal r p' hp'
          split
          · rfl
          · exact ho
    · simp at hm
  · simp at hm
end
def KEY : Nat := 1000000
structure Tr (ω : Nat → Lab) (m : Mc) (ω' : Nat → Lab) (m' : Mc) : Prop where
  os : m'.w.os = m.w.os
  tape : m'.w.tape = m.w.tape
  output : m'.w.output = m.w.output
  size : m.w.heap.size ≤ m'.w.heap.size
  fr : Stay ω ω' m.w m'.w .frame
  G : m'.G = m.G
  T : m'.T.size = m.T.size
  rb : ∀ k, KEY ≤ k → m'.rb k = m.rb k
theorem Tr.refl (ω : Nat → Lab) (m : Mc) : Tr ω m ω m := ⟨rfl, rfl, rfl, Nat.le_refl _, Stay.refl _ _ _, rfl, rfl, fun _ _ => rfl⟩
theorem Tr.trans {ω1 ω2 ω3 : Nat → Lab} {m1 m2 m3 : Mc} (h : Tr ω1 m1 ω2 m2) (h' : Tr ω2 m2 ω3 m3) : Tr ω1 m1 ω3 m3 :=
  ⟨h'.os.trans h.os, h'.tape.trans h.tape, h'.output.trans h.output, Nat.le_trans h.size h'.size,
    fun b x hx hb => let ⟨h1, h2⟩ := h.fr b x hx hb; h'.fr b x h1 h2, h'.G.trans h.G, h'.T.trans h.T, fun k hk => (h'.rb k hk).trans (h.rb k hk)⟩
theorem Tr.lab {ω ω' : Nat → Lab} {m : Mc} (h : ∀ b, ω b = .frame → ω' b = .frame) : Tr ω m ω' m :=
  ⟨rfl, rfl, rfl, Nat.le_refl _, fun b x hx hb => ⟨hx, h b hb⟩, rfl, rfl, fun _ _ => rfl⟩
theorem Tr.put {ω : Nat → Lab} {m : Mc} (d : Nat) (v : Value) : Tr ω m ω { m with T := m.T.setIfInBounds d v } :=
  ⟨rfl, rfl, rfl, Nat.le_refl _, Stay.refl _ _ _, rfl, by simp, fun _ _ => rfl⟩
def upd (ω : Nat → Lab) (n : Nat) (l : Lab) : Nat → Lab := fun b => if b = n then l else ω b
section
variable {P : Program} {ω : Nat → Lab} {m : Mc} {st : St} {o : Oper} {a : Act}
theorem RR.ext {ω' : Nat → Lab} {w' : World} (h : RR ω m st) (hw : ∀ b x, m.w.heap[b]? = some x → w'.heap[b]? = some x ∧ ω' b = ω b) : RR ω' { m with w := w' } st := by
  have hst : ∀ l, Stay ω ω' m.w w' l := fun l b x hx hb => ⟨(hw b x hx).1, by rw [(hw b x hx).2]; exact hb⟩
  refine ⟨?_, h.al⟩
  have hdr : ∀ r v0, hdR m r = some v0 → hdR { m with w := w' } r = some v0 := by
    intro r v0 hv
    cases r with
    | slot _ _ => exact hv
    | gho _ _ => exact hv
    | res _ => exact hv
    | ref k c =>
      simp only [hdR] at hv ⊢
      split at hv
      · rename_i arr _ _ hh
        rw [(hw _ _ hh).1]; exact hv
      · simp at hv
  have := h.r.move (m' := { m with w := w' }) (ω' := ω') (fun _ => false) (fun s => .inl rfl) rfl
    (fun r v c _ _ _ hcr => hcr.keep (hst _) (fun _ q => hst _) (fun _ _ => rfl) (fun p _ => ⟨fun v0 h0 => hdr p.r v0 h0, fun q _ => hst _⟩))
    (fun k _ => ⟨rfl, fun arr elem hb hh => ⟨(hw _ _ hh).1, by rw [(hw _ _ hh).2]; exact hb⟩⟩)
  rwa [St.filt_false] at this
theorem alloc_ext {w : World} {obj : Obj} {ω : Nat → Lab} {l : Lab} : ∀ b x, w.heap[b]? = some x → (w.alloc obj).heap[b]? = some x ∧ upd ω w.heap.size l b = ω b := by
  intro b x hx
  have hlt := (Array.getElem?_eq_some_iff.1 hx).1
  refine ⟨?_, by unfold upd; rw [if_neg (by omega)]⟩
  show (w.heap.push obj)[b]? = some x
  rw [Array.getElem?_push, if_neg (by omega)]; exact hx
theorem alloc_new {w : World} {obj : Obj} : (w.alloc obj).heap[w.heap.size]? = some obj := by
  show (w.heap.push obj)[w.heap.size]? = some obj
  simp
theorem Tr.alloc {ω : Nat → Lab} {m : Mc} (obj : Obj) (l : Lab) : Tr ω m (upd ω m.w.heap.size l) { m with w := m.w.alloc obj } :=
  ⟨rfl, rfl, rfl, by simp, fun b x hx hb => let ⟨h1, h2⟩ := alloc_ext (obj := obj) (ω := ω) (l := l) b x hx; ⟨h1, by rw [h2]; exact hb⟩, rfl, rfl, fun _ _ => rfl⟩
theorem rd_ext {w w' : World} {Q : BP} {d : D} {v : Value} (hw : ∀ (b : Nat) x, w.heap[b]? = some x → w'.heap[b]? = some x) (h : rd w d Q v) : rd w' d Q v :=
  rd_carry _ _ _ _ (fun q ad m arr elem fz hh hq => ⟨hw _ _ hh, hq⟩) h
def ownize (st : St) (r : Root) : Option St := match rootCell st r with
  | .al p => match moveOut st p with
    | some (sz, rows, st') => some (setRoot st' r (.own sz rows))
    | none => none
  | _ => some st
def ownAll (st : St) : List Root → Option St
  | [] => some st
  | r :: rs => match ownize st r with
    | some st' => ownAll st' rs
    | none => none
theorem ownize_sound {r : Root} {st' : St} (h : RR ω m st) (ho : ownize st r = some st') : ∃ ω', RR ω' m st' ∧ (∀ b, ω' b = .frame ↔ ω b = .frame) := by
  unfold ownize at ho
  split at ho
  · rename_i p hc
    split at ho
    · rename_i sz rows st1 hm
      simp only [Option.some.injEq] at ho; subst ho
      obtain ⟨v, hv, hcr⟩ := h.r.cell (r := r) (by rw [hc]; simp)
      rw [hc] at hcr
      obtain ⟨h1, h2⟩ := moveOut_sound r [] h hcr.1 hm
      refine ⟨relab ω p r [], ⟨h1.r.setRoot (fun u hu => by rw [hv] at hu; injection hu with hu; subst hu; exact h2), fun r' p' hp' => ?_⟩, fun b => relab_frame⟩
      rw [rootCell_setRoot] at hp' ⊢
      split at hp'
      · simp [Cell.places] at hp'
      · have := h1.al r' p' hp'
        split
        · rfl
        · exact this
    · simp at ho
  · simp only [Option.some.injEq] at ho; subst ho; exact ⟨ω, h, fun _ => Iff.rfl⟩
theorem ownAll_sound : ∀ {rs : List Root} {ω : Nat → Lab} {st st' : St}, RR ω m st → ownAll st rs = some st' → ∃ ω', RR ω' m st' ∧ (∀ b, ω' b = .frame ↔ ω b = .frame)
  | [], ω, st, st', h, ho => by simp only [ownAll, Option.some.injEq] at ho; subst ho; exact ⟨ω, h, fun _ => Iff.rfl⟩
  | r :: rs, ω, st, st', h, ho => by
    simp only [ownAll] at ho
    split at ho
    · rename_i st1 h1
      obtain ⟨ω1, h2, h3⟩ := ownize_sound h h1
      obtain ⟨ω2, h4, h5⟩ := ownAll_sound h2 ho
      exact ⟨ω2, h4, fun b => (h5 b).trans (h3 b)⟩
    · simp at ho
def takes (x : XO) (tk : Bool) (r : Nat → Root) : Nat → List Cell → List Root
  | _, [] => []
  | j, c :: cs => (match c with
    | .al p => if tk || (match x with | .s t => p.r.isSlot t | .c _ => false) then [r j] else []
    | _ => []) ++ takes x tk r (j + 1) cs
def EOk (P : Program) (ω : Nat → Lab) (m : Mc) (o : Oper) (a : Act) (d : Nat) (st' : St) : Prop :=
  ∃ v w' ω' rb', (execOp a.eval o).run P m.w = .ok (.value v) w' ∧ RR ω' ⟨m.T.setIfInBounds d v, m.G, w', rb'⟩ st' ∧ Tr ω m ω' ⟨m.T.setIfInBounds d v, m.G, w', rb'⟩
theorem EOk.of_q {d : Nat} {y : SV} (h : RR ω m st) (hd : d < m.T.size) (hq : QOk P ω m st o a y) : EOk P ω m o a d (putSlot st d y) := by
  obtain ⟨v, h1, h2, h3⟩ := hq
  exact ⟨v, m.w, ω, m.rb, h1, h.put hd (h2 _) h3, Tr.put d v⟩
theorem EOk.own {d : Nat} {st1 st' : St} {rs : List Root} (h : EOk P ω m o a d st1) (ho : ownAll st1 rs = some st') : EOk P ω m o a d st' := by
  obtain ⟨v, w', ω', rb', h1, h2, h3⟩ := h
  obtain ⟨ω2, h4, h5⟩ := ownAll_sound h2 ho
  exact ⟨v, w', ω2, rb', h1, h4, h3.trans (Tr.lab fun b hb => (h5 b).2 hb)⟩
def asgSt (st : St) (d : Nat) (x : XO) (tk : Bool) : Option St :=
  ownAll (putSlot st d (evX st x)) (takes x tk (.slot d) 0 (evX st x).cs)
theorem e_asg {d : Nat} {x : XO} {z : Operand} {tk : Bool} {st' : St} (h : RR ω m st) (ha : a.tmps = m.T) (hd : d < m.T.size) (ho : o.op = .assign z) (hm : mO z x = true)
    (hs : asgSt st d x tk = some st') : EOk P ω m o a d st' := by
  refine EOk.own (EOk.of_q h hd ⟨a.eval z, ?_, fun r => evX_sound h ha hm r, evX_alOk h hm⟩) hs
  simp [execOp, ho]
end
def Root.isRef (d : Nat) : Root → Bool
  | .ref k _ => k == d
  | _ => false
def hitK (d : Nat) (c : Cell) : Bool := c.keys.contains d || c.places.any fun p => p.r.isRef d
theorem hitK_own {d : Nat} {c : Cell} (h : c.isOwn = true) : hitK d c = false := by cases c <;> simp_all [hitK, Cell.places, Cell.keys, Cell.isOwn]
theorem hitK_not {d : Nat} {c : Cell} (h : hitK d c = false) : (∀ k ∈ c.keys, k ≠ d) ∧ ∀ p ∈ c.places, ∀ i, p.r ≠ .ref d i := by
  simp only [hitK, Bool.or_eq_false_iff, List.any_eq_false] at h
  refine ⟨fun k hk e => ?_, fun p hp i e => ?_⟩
  · subst e; have := h.1; simp at this; exact this hk
  · exact h.2 p hp (by simp [e, Root.isRef])
def newRef (st : St) (d : Nat) (cs : List Cell) : St :=
  let st1 := st.filt (hitK d)
  { st1 with rf := putR st1.rf d (cs.map (Cell.filt (hitK d))) }
section
variable {P : Program} {ω : Nat → Lab} {m : Mc} {st : St} {o : Oper} {a : Act}
theorem rootCell_newRef {d : Nat} {cs : List Cell} {r : Root} (hr : ∀ i, r ≠ .ref d i) : rootCell (newRef st d cs) r = (rootCell st r).filt (hitK d) := by
  rw [← rootCell_filt]
  cases r with
  | ref k c =>
    have hne : d ≠ k := fun e => hr c (by rw [e])
    simp only [newRef, rootCell, lookR_putR, hne, if_false]
  | _ => rfl
theorem newRef_sound {d : Nat} {arr : Array Value} {elem : TypeId} {cs : List Cell} (h : RR ω m st) (hcs : ∀ r, CRs ω m r 0 arr.toList cs)
    (hal : ∀ c ∈ cs, ∀ p ∈ c.places, (rootCell st p.r).isOwn = true) :
    RR (upd ω m.w.heap.size (.blk d)) { m with w := m.w.alloc (.cells arr elem), rb := fun k => if k = d then m.w.heap.size else m.rb k } (newRef st d cs) := by
  have hext : ∀ l, Stay ω (upd ω m.w.heap.size (.blk d)) m.w (m.w.alloc (.cells arr elem)) l := fun l b x hx hb =>
    let ⟨h1, h2⟩ := alloc_ext (obj := .cells arr elem) (ω := ω) (l := .blk d) b x hx; ⟨h1, by rw [h2]; exact hb⟩
  have hkeep : ∀ r v c, hitK d c = false → CR ω m r v c →
      CR (upd ω m.w.heap.size (.blk d)) { m with w := m.w.alloc (.cells arr elem), rb := fun k => if k = d then m.w.heap.size else m.rb k } r v c := by
    intro r v c hf hcr
    obtain ⟨hk, hp⟩ := hitK_not hf
    refine hcr.keep (hext _) (fun _ q => hext _) (fun k hk' => by simp [hk k hk']) (fun p hp' => ⟨fun v0 h0 => ?_, fun q _ => hext _⟩)
    cases hr : p.r with
    | slot _ _ => rw [hr] at h0; exact h0
    | gho _ _ => rw [hr] at h0; exact h0
    | res _ => rw [hr] at h0; exact h0
    | ref k c =>
      have hne : k ≠ d := fun e => hp p hp' c (by rw [hr, e])
      rw [hr] at h0
      simp only [hdR, hne, if_false] at h0 ⊢
      split at h0
      · rename_i arr' _ _ hh
        rw [(alloc_ext (ω := ω) (l := .blk d) _ _ hh).1]; exact h0
      · simp at h0
  have h0 : R ω m { st with rf := delR st.rf d } := by
    refine ⟨h.r.sl, h.r.gh, fun k cs hk => ?_⟩
    simp only [lookR_delR] at hk
    split at hk
    · simp at hk
    · exact h.r.rf k cs hk
  have h1 := h0.move (m' := { m with w := m.w.alloc (.cells arr elem), rb := fun k => if k = d then m.w.heap.size else m.rb k }) (ω' := upd ω m.w.heap.size (.blk d)) (hitK d)
    (fun s => .inl rfl) rfl (fun r v c _ _ hf hcr => hkeep r v c hf hcr) (fun k hk => by
      have hne : k ≠ d := by
        intro e; subst e; simp [lookR_delR] at hk
      refine ⟨by simp [hne], fun arr' elem' hb hh => ?_⟩
      obtain ⟨a1, a2⟩ := hext _ _ _ hh hb
      exact ⟨a1, a2⟩)
  refine ⟨⟨fun s => ?_, fun i => ?_, fun k cs' hk => ?_⟩, fun r p hp => ?_⟩
  · exact h1.sl s
  · exact h1.gh i
  · simp only [newRef, St.filt, lookR_putR] at hk
    by_cases hkd : d = k
    · subst hkd
      simp only [if_true, Option.some.injEq] at hk
      subst hk
      refine ⟨arr, elem, by simp only [if_true]; exact alloc_new, by simp [upd], ?_⟩
      have hc := hcs (.ref d)
      rw [CRs_iff] at hc ⊢
      refine ⟨by simpa using hc.1, fun i v c hv hcc => ?_⟩
      simp only [List.getElem?_map, Option.map_eq_some_iff] at hcc
      obtain ⟨c0, hc0, rfl⟩ := hcc
      unfold Cell.filt
      by_cases hf : hitK d c0 = true
      · simp only [hf, if_true]; trivial
      · simp only [hf, if_false, Bool.false_eq_true]
        exact hkeep _ _ _ (by simpa using hf) (hc.2 i v c0 hv hc0)
    · simp only [hkd, if_false] at hk
      refine h1.rf k cs' ?_
      simp only [St.filt, lookR_mapR, lookR_delR, hkd, if_false] at hk ⊢
      exact hk
  · -- aliases
    have fin : ∀ c : Cell, hitK d c = false → p ∈ c.places → (rootCell st p.r).isOwn = true → (rootCell (newRef st d cs) p.r).isOwn = true := by
      intro c hf hpl ho
      rw [rootCell_newRef ((hitK_not hf).2 p hpl)]
      exact Cell.filt_own ho (hitK_own ho)
    by_cases hr : ∃ i, r = .ref d i
    · obtain ⟨i, rfl⟩ := hr
      simp only [newRef, rootCell, lookR_putR, if_true, List.getElem?_map] at hp
      cases hg : cs[i]? with
      | none => simp [hg, Cell.places] at hp
      | some c =>
        simp only [hg, Option.map_some, Option.getD_some] at hp
        obtain ⟨hf, hpl⟩ := Cell.filt_place hp
        exact fin c hf hpl (hal c (List.mem_of_getElem? hg) p hpl)
    · rw [rootCell_newRef (fun i e => hr ⟨i, e⟩)] at hp
      obtain ⟨hf, hpl⟩ := Cell.filt_place hp
      exact fin _ hf hpl (h.al r p hpl)
theorem Tr.newRef {d : Nat} (hd : d < KEY) (obj : Obj) (l : Lab) : Tr ω m (upd ω m.w.heap.size l) { m with w := m.w.alloc obj, rb := fun k => if k = d then m.w.heap.size else m.rb k } :=
  ⟨rfl, rfl, rfl, by simp, fun b x hx hb => let ⟨h1, h2⟩ := alloc_ext (obj := obj) (ω := ω) (l := l) b x hx; ⟨h1, by rw [h2]; exact hb⟩, rfl, rfl, fun k hk => by
    have : k ≠ d := by omega
    simp [this]⟩
theorem CRs_cells {r : Nat → Root} {v : Value} {x : SV} (hx : SVR ω m r v x) (hp : x.sh = .one ∨ x.sh = .agg) : CRs ω m r 0 v.cells.toList x.cs := by
  have hne : x.sh ≠ .no := by rcases hp with h | h <;> rw [h] <;> simp
  rw [SVR_iff hne] at hx
  rcases hp with h | h
  · rw [h] at hx
    have := hx.2
    rw [flatV_single hx.1] at this
    have hc : v.cells.toList = [v] := by
      have := hx.1
      simp only [shOk] at this
      cases v <;> simp_all [Value.cells, Value.single]
    rw [hc]; exact this
  · rw [h] at hx
    obtain ⟨⟨arr, rfl⟩, h2⟩ := hx
    simpa [Value.cells, flatV] using h2
def allocSt (st : St) (d : Nat) (cs : List Cell) : St := putSlot (newRef st d cs) d ⟨.one, [.ptr d 0]⟩
def boxSt (st : St) (d : Nat) (x : XO) (tk : Bool) : Option St :=
  match (evX st x).sh with
  | .one => ownAll (allocSt st d (evX st x).cs) (takes x tk (.ref d) 0 (evX st x).cs)
  | .agg => ownAll (allocSt st d (evX st x).cs) (takes x tk (.ref d) 0 (evX st x).cs)
  | _ => none
theorem alloc_sound {d : Nat} {elem : TypeId} {cs : List Cell} {v : Value} (h : RR ω m st) (hd : d < m.T.size) (hk : d < KEY)
    (hcs : ∀ r, CRs ω m r 0 v.cells.toList cs) (hal : ∀ c ∈ cs, ∀ p ∈ c.places, (rootCell st p.r).isOwn = true)
    (hr : (execOp a.eval o).run P m.w = .ok (.value (.pointer (some ⟨m.w.heap.size, 0, none⟩))) (m.w.alloc (.cells v.cells elem))) : EOk P ω m o a d (allocSt st d cs) := by
  have h1 := newRef_sound (elem := elem) (d := d) h hcs hal
  have h2 := h1.put (d := d) (v := .pointer (some ⟨m.w.heap.size, 0, none⟩)) (x := ⟨.one, [.ptr d 0]⟩) hd (one_sound rfl (by simp [CRx, ptrV])) (one_al (by simp [Cell.places]))
  exact ⟨_, _, _, _, hr, h2, (Tr.newRef hk _ _).trans (Tr.put d _)⟩
theorem e_alloc {d : Nat} {elem : TypeId} {i : TypeInfo} {z : Value} {cs : List Cell} (h : RR ω m st) (hd : d < m.T.size) (hk : d < KEY) (ho : o.op = .alloc elem)
    (hi : P.info? elem = some i) (hz : i.zero = some z) (hc : constCs z.cells.toList cs = true) : EOk P ω m o a d (allocSt st d cs) := by
  refine alloc_sound (v := z) (elem := elem) h hd hk (fun r => constCs_sound 0 hc) (fun c hc' p hp => by rw [constCs_places hc c hc'] at hp; simp at hp) ?_
  simp [execOp, ho, Instr.alloc, zeroValue, typeInfo, hi, hz, newVar, newRow]
theorem e_box {d : Nat} {elem : TypeId} {x : XO} {z : Operand} {tk : Bool} {st' : St} (h : RR ω m st) (ha : a.tmps = m.T) (hd : d < m.T.size) (hk : d < KEY) (ho : o.op = .box elem z) (hm : mO z x = true)
    (hs : boxSt st d x tk = some st') : EOk P ω m o a d st' := by
  unfold boxSt at hs
  have key : ((evX st x).sh = .one ∨ (evX st x).sh = .agg) → EOk P ω m o a d (allocSt st d (evX st x).cs) := fun hp =>
    alloc_sound (v := a.eval z) (elem := elem) h hd hk (fun r => CRs_cells (evX_sound h ha hm r) hp) (alOk_mem (by rcases hp with e | e <;> rw [e] <;> simp) (evX_alOk h hm))
      (by simp [execOp, ho, Instr.box, newVar, newRow])
  split at hs
  · rename_i hp; exact (key (.inl hp)).own hs
  · rename_i hp; exact (key (.inr hp)).own hs
  · simp at hs
end
def Root.inRng (k o n : Nat) : Root → Bool
  | .ref k' c => k' == k && (decide (o ≤ c) && decide (c < o + n))
  | _ => false
def hitG (k o n : Nat) (c : Cell) : Bool := c.places.any fun p => p.r.inRng k o n
theorem hitG_own {k o n : Nat} {c : Cell} (h : c.isOwn = true) : hitG k o n c = false := by simp [hitG, Cell.own_places h]
theorem hitG_not {k o n : Nat} {c : Cell} (h : hitG k o n c = false) {p : Pl} (hp : p ∈ c.places) : p.r.inRng k o n = false := by
  simp only [hitG, List.any_eq_false] at h
  simpa using h p hp
def splice (old : List Cell) (o : Nat) (cs : List Cell) : List Cell := old.take o ++ cs ++ old.drop (o + cs.length)
def storeRef (st : St) (k o : Nat) (cs : List Cell) : Option St :=
  match lookR st.rf k with
  | some old =>
    if o + cs.length ≤ old.length ∧ cs.all Cell.plain = true then
      some (if ((old.drop o).take cs.length).any Cell.isOwn then
        { (st.filt (hitG k o cs.length)) with rf := updR (st.filt (hitG k o cs.length)).rf k (fun old => splice old o (cs.map (Cell.filt (hitG k o cs.length)))) }
      else { st with rf := updR st.rf k (fun old => splice old o cs) })
    else none
  | none => none
section
variable {P : Program} {ω : Nat → Lab} {m : Mc} {st : St} {o : Oper} {a : Act}
theorem splice_get (old cs : List Cell) (o i : Nat) (h : o + cs.length ≤ old.length) : (splice old o cs)[i]? = if o ≤ i ∧ i < o + cs.length then cs[i - o]? else old[i]? := by
  unfold splice
  have hl : (old.take o).length = o := by rw [List.length_take]; omega
  by_cases h1 : i < o
  · rw [List.append_assoc, List.getElem?_append_left (by omega), if_neg (by omega), List.getElem?_take, if_pos h1]
  · rw [List.append_assoc, List.getElem?_append_right (by omega), hl]
    by_cases h2 : i < o + cs.length
    · rw [List.getElem?_append_left (by omega), if_pos ⟨by omega, h2⟩]
    · rw [List.getElem?_append_right (by omega), if_neg (by omega), List.getElem?_drop]; congr 1; omega
theorem splice_length (old cs : List Cell) (o : Nat) (h : o + cs.length ≤ old.length) : (splice old o cs).length = old.length := by
  unfold splice; simp only [List.length_append, List.length_take, List.length_drop]; omega
theorem vsplice_get (old vs : List Value) (o i : Nat) (h : o + vs.length ≤ old.length) : (old.take o ++ vs ++ old.drop (o + vs.length))[i]? = if o ≤ i ∧ i < o + vs.length then vs[i - o]? else old[i]? := by
  have hl : (old.take o).length = o := by rw [List.length_take]; omega
  by_cases h1 : i < o
  · rw [List.append_assoc, List.getElem?_append_left (by omega), if_neg (by omega), List.getElem?_take, if_pos h1]
  · rw [List.append_assoc, List.getElem?_append_right (by omega), hl]
    by_cases h2 : i < o + vs.length
    · rw [List.getElem?_append_left (by omega), if_pos ⟨by omega, h2⟩]
    · rw [List.getElem?_append_right (by omega), if_neg (by omega), List.getElem?_drop]; congr 1; omega
theorem setRow_stay {w : World} {g : Nat} {cur new : Array Value} {t : TypeId} {fz : Nat × Nat} {l : Lab} {ω : Nat → Lab} (hg : w.heap[g]? = some (.cells cur t fz)) (hl : ω g ≠ l) :
    Stay ω ω w (w.setRow g new) l := by
  intro b x hx hb
  have : b ≠ g := fun e => hl (by rw [← e]; exact hb)
  exact ⟨by rw [setRow_other w g b new this]; exact hx, hb⟩
theorem storeRef_sound {k o' : Nat} {cs : List Cell} {vs : List Value} {st' : St} (h : RR ω m st) (hs : storeRef st k o' cs = some st') (hcs : ∀ r, CRs ω m r 0 vs cs)
    (hal : ∀ c ∈ cs, ∀ p ∈ c.places, (rootCell st p.r).isOwn = true) :
    ∃ w', (storeCells ⟨m.rb k, o', none⟩ vs).run P m.w = .ok () w' ∧ RR ω { m with w := w' } st' ∧ Tr ω m ω { m with w := w' } := by
  unfold storeRef at hs
  split at hs
  · rename_i old hold
    split at hs
    · rename_i hcond
      obtain ⟨hlen, hplain⟩ := hcond
      obtain ⟨arr, elem, hh, hb, hcr⟩ := h.r.rf k old hold
      have hcl := ((CRs_iff ω m (.ref k) arr.toList old 0).1 hcr).1
      have hvl : vs.length = cs.length := ((CRs_iff ω m .res vs cs 0).1 (hcs .res)).1
      have hone : ∀ v ∈ vs, v.oneCell' = true := by
        intro v hv
        obtain ⟨i, hi⟩ := List.mem_iff_getElem?.1 hv
        have hilt : i < cs.length := by rw [← hvl]; exact (List.getElem?_eq_some_iff.1 hi).1
        have hc := ((CRs_iff ω m .res vs cs 0).1 (hcs .res)).2 i v cs[i] hi (List.getElem?_eq_getElem hilt)
        have hp := List.all_eq_true.1 hplain cs[i] (List.getElem_mem hilt)
        have := CR_single hc hp
        cases v <;> simp_all [Value.single, Value.oneCell']
      have hrun := run_storeCells_at P (m.rb k) o' elem vs 0 arr m.w hh (by simp only [Nat.add_zero]; rw [hvl]; simp only [Array.length_toList] at hcl; omega) hone
      simp only [Nat.add_zero] at hrun
      refine ⟨_, hrun, ?_, ?_⟩
      · -- the state
        have hstay : ∀ l, ω (m.rb k) ≠ l → Stay ω ω m.w (m.w.setRow (m.rb k) (arr.toList.take o' ++ vs ++ arr.toList.drop (o' + vs.length)).toArray) l := fun l hl => setRow_stay hh hl
        have hnewh := setRow_heap m.w (m.rb k) arr (arr.toList.take o' ++ vs ++ arr.toList.drop (o' + vs.length)).toArray elem (0, 0) hh
        have hvlt : o' + vs.length ≤ arr.toList.length := by rw [hvl, hcl]; exact hlen
        have hdr : ∀ p : Pl, (rootCell st p.r).isOwn = true → p.r.inRng k o' cs.length = false → ∀ v0, hdR m p.r = some v0 →
            hdR { m with w := m.w.setRow (m.rb k) (arr.toList.take o' ++ vs ++ arr.toList.drop (o' + vs.length)).toArray } p.r = some v0 := by
          intro p hown hp v0 hv
          cases hr : p.r with
          | slot _ _ => rw [hr] at hv; exact hv
          | gho _ _ => rw [hr] at hv; exact hv
          | res _ => rw [hr] at hv; exact hv
          | ref k' c =>
            rw [hr] at hv hp hown
            simp only [hdR] at hv ⊢
            by_cases hk : k' = k
            · subst hk
              rw [hnewh]
              rw [hh] at hv
              simp only at hv ⊢
              simp only [Root.inRng, beq_self_eq_true, Bool.true_and, Bool.and_eq_false_iff, decide_eq_false_iff_not] at hp
              have h1 := vsplice_get arr.toList vs o' c hvlt
              rw [if_neg (by omega)] at h1
              rw [List.getElem?_toArray, h1, Array.getElem?_toList]; exact hv
            · have hsome : ∃ cs', lookR st.rf k' = some cs' := by
                simp only [rootCell] at hown
                cases hl : lookR st.rf k' with
                | none => simp [hl, Cell.isOwn] at hown
                | some cs' => exact ⟨cs', rfl⟩
              obtain ⟨cs', hcs'⟩ := hsome
              obtain ⟨_, _, _, hb', _⟩ := h.r.rf k' cs' hcs'
              have hne : m.rb k' ≠ m.rb k := by intro e; rw [e, hb] at hb'; injection hb' with e'; exact hk e'.symm
              rw [setRow_other _ _ _ _ hne]; exact hv
        have hkeep : ∀ r v c, (∀ p ∈ c.places, (rootCell st p.r).isOwn = true ∧ p.r.inRng k o' cs.length = false) → CR ω m r v c →
            CR ω { m with w := m.w.setRow (m.rb k) (arr.toList.take o' ++ vs ++ arr.toList.drop (o' + vs.length)).toArray } r v c := by
          intro r v c hp hc
          exact hc.keep (hstay _ (by rw [hb]; simp)) (fun _ q => hstay _ (by rw [hb]; simp)) (fun _ _ => rfl)
            (fun p hpm => ⟨fun v0 hv0 => hdr p (hp p hpm).1 (hp p hpm).2 v0 hv0, fun q _ => hstay _ (by rw [hb]; simp)⟩)
        have key : ∀ (f : Cell → Bool), (∀ c, c.isOwn = true → f c = false) → (∀ r, f (rootCell st r) = false → ∀ p ∈ (rootCell st r).places, p.r.inRng k o' cs.length = false) →
            (∀ c ∈ cs, f c = false → ∀ p ∈ c.places, p.r.inRng k o' cs.length = false) →
            RR ω { m with w := m.w.setRow (m.rb k) (arr.toList.take o' ++ vs ++ arr.toList.drop (o' + vs.length)).toArray }
              { (st.filt f) with rf := updR (st.filt f).rf k (fun old => splice old o' (cs.map (Cell.filt f))) } := by
          intro f hfo hfr hfc
          have h0 : R ω m { st with rf := delR st.rf k } := by
            refine ⟨h.r.sl, h.r.gh, fun k1 cs1 hk1 => ?_⟩
            simp only [lookR_delR] at hk1
            split at hk1
            · simp at hk1
            · exact h.r.rf k1 cs1 hk1
          have hroot0 : ∀ r, rootCell { st with rf := delR st.rf k } r ≠ .undef → rootCell { st with rf := delR st.rf k } r = rootCell st r := by
            intro r hr
            cases r with
            | ref k1 c =>
              simp only [rootCell, lookR_delR] at hr ⊢
              by_cases hkk : k = k1
              · simp [hkk] at hr
              · simp [hkk]
            | _ => rfl
          have h1 := h0.move (m' := { m with w := m.w.setRow (m.rb k) (arr.toList.take o' ++ vs ++ arr.toList.drop (o' + vs.length)).toArray }) (ω' := ω) f
            (fun s => .inl rfl) rfl (fun r v c hc hne hf hcr => hkeep r v c (fun p hp => by
              have e := hroot0 r (by rw [hc]; exact hne)
              rw [hc] at e
              exact ⟨h.al r p (by rw [← e]; exact hp), hfr r (by rw [← e]; exact hf) p (by rw [← e]; exact hp)⟩) hcr)
            (fun k1 hk1 => by
              refine ⟨rfl, fun arr1 elem1 hb1 hh1 => ⟨?_, hb1⟩⟩
              have hne : k1 ≠ k := by intro e; subst e; simp [lookR_delR] at hk1
              have hne2 : m.rb k1 ≠ m.rb k := by intro e; rw [e, hb] at hb1; injection hb1 with e'; exact hne e'.symm
              rw [setRow_other _ _ _ _ hne2]; exact hh1)
          have hslen : (splice (old.map (Cell.filt f)) o' (cs.map (Cell.filt f))).length = old.length := by rw [splice_length _ _ _ (by simpa using hlen)]; simp
          have hsget : ∀ i, (splice (old.map (Cell.filt f)) o' (cs.map (Cell.filt f)))[i]? = (if o' ≤ i ∧ i < o' + cs.length then cs[i - o']? else old[i]?).map (Cell.filt f) := by
            intro i
            rw [splice_get _ _ _ _ (by simpa using hlen)]
            simp only [List.length_map, List.getElem?_map]
            split <;> rfl
          refine ⟨⟨fun s => h1.sl s, fun i => h1.gh i, fun k1 cs1 hk1 => ?_⟩, fun r p hp => ?_⟩
          · simp only [St.filt, lookR_updR, lookR_mapR] at hk1
            by_cases hkk : k = k1
            · subst hkk
              simp only [if_true, hold, Option.map_some, Option.some.injEq] at hk1
              subst hk1
              refine ⟨_, elem, hnewh, hb, ?_⟩
              rw [CRs_iff]
              refine ⟨?_, fun i u d hu hd => ?_⟩
              · rw [hslen, ← hcl]
                simp only [List.length_append, List.length_take, List.length_drop, Array.length_toList]
                simp only [Array.length_toList] at hvlt
                omega
              · rw [hsget] at hd
                rw [vsplice_get _ _ _ _ hvlt, hvl] at hu
                simp only [Option.map_eq_some_iff] at hd
                obtain ⟨c, hc, rfl⟩ := hd
                simp only [Nat.zero_add]
                unfold Cell.filt
                by_cases hf : f c = true
                · simp only [hf, if_true]; trivial
                · simp only [hf, if_false, Bool.false_eq_true]
                  by_cases hi : o' ≤ i ∧ i < o' + cs.length
                  · simp only [hi, and_self, if_true] at hc hu
                    have hcm := List.mem_of_getElem? hc
                    have := ((CRs_iff ω m (fun j => .ref k (o' + j)) vs cs 0).1 (hcs _)).2 (i - o') u c hu hc
                    simp only [Nat.zero_add] at this
                    rw [show o' + (i - o') = i by omega] at this
                    exact hkeep _ _ _ (fun p hp => ⟨hal c hcm p hp, hfc c hcm (by simpa using hf) p hp⟩) this
                  · simp only [hi, if_false] at hc hu
                    have := ((CRs_iff ω m (.ref k) arr.toList old 0).1 hcr).2 i u c hu hc
                    simp only [Nat.zero_add] at this
                    have hrc : rootCell st (.ref k i) = c := by simp [rootCell, hold, hc]
                    exact hkeep _ _ _ (fun p hp => ⟨h.al (.ref k i) p (by rw [hrc]; exact hp), hfr (.ref k i) (by rw [hrc]; simpa using hf) p (by rw [hrc]; exact hp)⟩) this
            · simp only [hkk, if_false] at hk1
              refine h1.rf k1 cs1 ?_
              simp only [St.filt, lookR_mapR, lookR_delR, hkk, if_false]
              exact hk1
          · -- aliases
            have hroot : ∀ q : Root, q.inRng k o' cs.length = false → rootCell { (st.filt f) with rf := updR (st.filt f).rf k (fun old => splice old o' (cs.map (Cell.filt f))) } q = (rootCell st q).filt f := by
              intro q hq
              rw [← rootCell_filt]
              cases q with
              | ref k1 c =>
                simp only [rootCell, St.filt, lookR_updR, lookR_mapR]
                by_cases hkk : k = k1
                · subst hkk
                  simp only [if_true, hold, Option.map_some, hsget, List.getElem?_map]
                  simp only [Root.inRng, beq_self_eq_true, Bool.true_and, Bool.and_eq_false_iff, decide_eq_false_iff_not] at hq
                  rw [if_neg (by omega)]
                · simp only [hkk, if_false]
              | _ => rfl
            have fin : ∀ c : Cell, (∀ p ∈ c.places, (rootCell st p.r).isOwn = true) → (∀ p ∈ c.places, p.r.inRng k o' cs.length = false) → p ∈ c.places →
                (rootCell { (st.filt f) with rf := updR (st.filt f).rf k (fun old => splice old o' (cs.map (Cell.filt f))) } p.r).isOwn = true := by
              intro c ho hn hpl
              rw [hroot p.r (hn p hpl)]
              exact Cell.filt_own (ho p hpl) (hfo _ (ho p hpl))
            by_cases hr : r.inRng k o' cs.length = true
            · cases r with
              | ref k1 c =>
                simp only [Root.inRng, Bool.and_eq_true, beq_iff_eq, decide_eq_true_eq] at hr
                obtain ⟨rfl, h3, h4⟩ := hr
                simp only [rootCell, St.filt, lookR_updR, lookR_mapR, if_true, hold, Option.map_some, hsget] at hp
                rw [if_pos ⟨h3, h4⟩] at hp
                cases hg : cs[c - o']? with
                | none => simp [hg, Cell.places] at hp
                | some c0 =>
                  simp only [hg, Option.map_some, Option.getD_some] at hp
                  obtain ⟨hf, hpl⟩ := Cell.filt_place hp
                  have hcm := List.mem_of_getElem? hg
                  exact fin c0 (hal c0 hcm) (hfc c0 hcm hf) hpl
              | _ => simp [Root.inRng] at hr
            · rw [hroot r (by simpa using hr)] at hp
              obtain ⟨hf, hpl⟩ := Cell.filt_place hp
              exact fin (rootCell st r) (h.al r) (hfr r hf) hpl
        split at hs
        · simp only [Option.some.injEq] at hs; subst hs
          exact key (hitG k o' cs.length) (fun c hc => hitG_own hc) (fun r hf p hp => hitG_not hf hp) (fun c _ hf p hp => hitG_not hf hp)
        · rename_i hno
          simp only [Option.some.injEq] at hs; subst hs
          have hnoown : ∀ p : Pl, (rootCell st p.r).isOwn = true → p.r.inRng k o' cs.length = false := by
            intro p ho
            cases hr : p.r with
            | ref k1 c =>
              cases hin : (Root.ref k1 c).inRng k o' cs.length with
              | false => rfl
              | true =>
                simp only [Root.inRng, Bool.and_eq_true, beq_iff_eq, decide_eq_true_eq] at hin
                obtain ⟨rfl, h3, h4⟩ := hin
                rw [hr] at ho
                simp only [rootCell, hold] at ho
                cases hg : old[c]? with
                | none => simp [hg, Cell.isOwn] at ho
                | some c0 =>
                  simp only [hg, Option.getD_some] at ho
                  refine absurd (List.any_eq_true.2 ⟨c0, ?_, ho⟩) hno
                  refine List.mem_iff_getElem?.2 ⟨c - o', ?_⟩
                  rw [List.getElem?_take, if_pos (by omega), List.getElem?_drop, show o' + (c - o') = c by omega]; exact hg
            | _ => rfl
          have := key (fun _ => false) (fun _ _ => rfl) (fun r _ p hp => hnoown p (h.al r p hp)) (fun c hc _ p hp => hnoown p (hal c hc p hp))
          simp only [St.filt_false, map_filt_false] at this
          exact this
      · refine ⟨rfl, rfl, rfl, by simp [World.setRow], setRow_stay hh (by rw [hb]; simp), rfl, rfl, fun _ _ => rfl⟩
    · simp at hs
  · simp at hs
end
def setCells (sz : Nat) : List (List D) → Nat → List D → List (List D)
  | rows, _, [] => rows
  | rows, o, d :: ds => setCells sz (setCellAt sz rows o d) (o + 1) ds
def modP : Nat → List (List D) → Path → (Nat → List (List D) → List (List D)) → List (List D)
  | sz, rows, [], f => f sz rows
  | sz, rows, o :: p, f => match cellAt sz rows o with
    | some (.lst sz' rows') => setCellAt sz rows o (.lst sz' (modP sz' rows' p f))
    | _ => rows
theorem setCells_len {sz : Nat} : ∀ (ds : List D) (rows : List (List D)) (o : Nat), (∀ r ∈ rows, r.length = sz) → ∀ r ∈ setCells sz rows o ds, r.length = sz
  | [], _, _, h => h
  | d :: ds, rows, o, h => setCells_len ds _ (o + 1) (setCellAt_len h)
theorem setCells_length {sz : Nat} : ∀ (ds : List D) (rows : List (List D)) (o : Nat), (setCells sz rows o ds).length = rows.length
  | [], _, _ => rfl
  | d :: ds, rows, o => by rw [setCells, setCells_length ds, setCellAt_length]
theorem cellAt_setCells {sz : Nat} (hsz : 0 < sz) : ∀ (ds : List D) (rows : List (List D)) (o j : Nat), (∀ i, i < ds.length → (cellAt sz rows (o + i)).isSome) →
    cellAt sz (setCells sz rows o ds) j = if o ≤ j ∧ j < o + ds.length then ds[j - o]? else cellAt sz rows j
  | [], rows, o, j, _ => by rw [setCells, if_neg (by simp only [List.length_nil]; omega)]
  | d :: ds, rows, o, j, h => by
    rw [setCells, cellAt_setCells hsz ds _ (o + 1) j (fun i hi => by
      rw [cellAt_set hsz]
      rw [if_neg (by omega)]
      have := h (i + 1) (by simp; omega)
      rwa [show o + 1 + i = o + (i + 1) by omega])]
    by_cases h1 : o + 1 ≤ j ∧ j < o + 1 + ds.length
    · rw [if_pos h1, if_pos (by simp only [List.length_cons]; omega), show j - o = (j - (o + 1)) + 1 by omega]; rfl
    · rw [if_neg h1, cellAt_set hsz]
      by_cases h2 : o = j
      · subst h2
        have := h 0 (by simp)
        simp only [Nat.add_zero] at this
        obtain ⟨x, hx⟩ := Option.isSome_iff_exists.1 this
        rw [if_pos rfl, if_pos ⟨Nat.le_refl _, by simp only [List.length_cons]; omega⟩, hx]; simp
      · rw [if_neg h2, if_neg (by simp only [List.length_cons]; omega)]
theorem Qown_cons {ω : Nat → Lab} {r : Root} {q0 : Path} {o : Nat} {q : Path} {ad : Addr} {k : Nat} {arr : Array Value} {fz : Nat × Nat} :
    Qown ω r q0 (o :: q) ad k arr fz ↔ Qown ω r (q0 ++ [o]) q ad k arr fz := by
  unfold Qown; simp
theorem rd_mod {ω ω' : Nat → Lab} {w w' : World} {r : Root} {f : Nat → List (List D) → List (List D)} : ∀ (p : Path) (sz : Nat) (rows : List (List D)) (q0 : Path) (v : Value) (sz' : Nat) (rows' : List (List D)),
    rd w (.lst sz rows) (Qown ω r q0) v → pathRows sz rows p = some (sz', rows') →
    (∀ u, onPath ω w r q0 p v u → rd w (.lst sz' rows') (Qown ω r (q0 ++ p)) u → rd w' (.lst sz' (f sz' rows')) (Qown ω' r (q0 ++ p)) u) →
    (∀ q ad k arr elem fz, ¬ p <+: q → w.heap[ad.block]? = some (.cells arr elem fz) → Qown ω r q0 q ad k arr fz → w'.heap[ad.block]? = some (.cells arr elem fz) ∧ Qown ω' r q0 q ad k arr fz) →
    rd w' (.lst sz (modP sz rows p f)) (Qown ω' r q0) v
  | [], sz, rows, q0, v, sz', rows', h, hp, hb, hr => by
    simp only [pathRows, Option.some.injEq, Prod.mk.injEq] at hp
    obtain ⟨rfl, rfl⟩ := hp
    simp only [modP]
    simpa using hb v rfl (by simpa using h)
  | o :: p, sz, rows, q0, v, sz', rows', h, hp, hb, hr => by
    simp only [pathRows] at hp
    split at hp
    · rename_i sz1 rows1 hc
      simp only [modP, hc]
      refine rd_setCell h hc (fun ad n cap arr elem fz u hv hs hh hq hu hrd => ?_) (fun j hj q ad k arr elem fz hh hq => hr (j :: q) ad k arr elem fz (fun hpre => hj (by rw [List.cons_prefix_cons] at hpre; exact hpre.1.symm)) hh hq)
      obtain ⟨h1, h2⟩ := hr [] ad _ arr elem fz (by simp) hh hq
      refine ⟨arr, u, h1, h2, hu, fun _ _ => rfl, ?_⟩
      have hrd' : rd w (.lst sz1 rows1) (Qown ω r (q0 ++ [o])) u := rd_carry _ _ _ _ (fun q ad k arr elem fz hh hq => ⟨hh, Qown_cons.1 hq⟩) hrd
      have := rd_mod (ω' := ω') (w' := w') (f := f) p sz1 rows1 (q0 ++ [o]) u sz' rows' hrd' hp
        (fun u' hu' hrd2 => by
          have := hb u' ⟨ad, n, cap, arr, elem, fz, u, hv, hs, by simpa using hq.1, hh, hu, hu'⟩ (by simpa using hrd2)
          simpa using this)
        (fun q ad k arr elem fz hn hh hq => by
          obtain ⟨a1, a2⟩ := hr (o :: q) ad k arr elem fz (fun hpre => hn (by rw [List.cons_prefix_cons] at hpre; exact hpre.2)) hh (Qown_cons.2 hq)
          exact ⟨a1, Qown_cons.1 a2⟩)
      exact rd_carry _ _ _ _ (fun q ad k arr elem fz hh hq => ⟨hh, Qown_cons.2 hq⟩) this
    · simp at hp
section
variable {P : Program} {ω : Nat → Lab} {m : Mc} {st : St} {o : Oper} {a : Act}
def elemSt (st : St) (p : Pl) (o : Nat) (ds : List D) : Option St :=
  match rootCell st p.r with
  | .own sz0 rows0 => match pathRows sz0 rows0 p.p with
    | some (sz, rows) => if o % sz + ds.length ≤ sz ∧ o / sz < rows.length ∧ 0 < sz then
        some (setRoot (st.filt (hitN p.r (p.p.length + 1))) p.r (.own sz0 (modP sz0 rows0 p.p (fun sz rows => setCells sz rows o ds))))
      else none
    | none => none
  | _ => none
theorem own_label {r : Root} {v : Value} {sz : Nat} {rows : List (List D)} (h : CR ω m r v (.own sz rows)) (hne : rows ≠ []) :
    ∃ ad n cap, v = .slice (some ad) n cap ∧ ω ad.block = .at r [] := by
  obtain ⟨ad, cap, arr, elem, fz, hv, _, _, _, hq, _⟩ := rd_flat h hne
  exact ⟨ad, _, cap, hv, by simpa using hq.1⟩
theorem elemSt_sound {p : Pl} {off : Nat} {ds : List D} {vs : List Value} {st' : St} {b ao : Nat} {n cap : Nat} (h : RR ω m st) (hp : hd ω m p (.slice (some ⟨b, ao, none⟩) n cap))
    (hs : elemSt st p off ds = some st') (hvl : vs.length = ds.length) (hone : ∀ v ∈ vs, v.oneCell' = true)
    (hds : ∀ (j : Nat) d v, ds[j]? = some d → vs[j]? = some v → rd m.w d (Qown ω p.r (p.p ++ [off + j])) v) :
    ∃ w', (storeCells ⟨b, ao + off, none⟩ vs).run P m.w = .ok () w' ∧ RR ω { m with w := w' } st' ∧ Tr ω m ω { m with w := w' } := by
  unfold elemSt at hs
  split at hs
  · rename_i sz0 rows0 hc
    split at hs
    · rename_i sz rows hpr
      split at hs
      · rename_i hcond
        obtain ⟨hr1, hr2, hsz⟩ := hcond
        simp only [Option.some.injEq] at hs; subst hs
        have hrows : rowsAt st p = some (sz, rows) := by unfold rowsAt; rw [hc]; exact hpr
        have hrd := h.at hrows hp
        have hne : rows ≠ [] := by intro e; subst e; simp at hr2
        obtain ⟨ad, cap', arr, elem, fz, hv, hle, hsp, hh, hq, hlen, hel⟩ := rd_flat hrd hne
        injection hv with e1 e2 e3
        injection e1 with e1
        subst e1; subst e2; subst e3
        obtain ⟨hq1, hq2, hq3⟩ := hq
        subst hq2
        simp only [List.append_nil] at hq1
        -- the cells lie in the row
        have hcells : ∀ i, i < ds.length → (cellAt sz rows (off + i)).isSome := by
          intro i hi
          unfold cellAt
          have h1 : (off + i) / sz = off / sz := by
            have : off + i = off / sz * sz + (off % sz + i) := by have := Nat.div_add_mod off sz; rw [Nat.mul_comm] at this; omega
            rw [this, Nat.add_comm, Nat.add_mul_div_right _ _ hsz, Nat.div_eq_of_lt (by omega)]; omega
          have h2 : (off + i) % sz = off % sz + i := by
            have : off + i = off / sz * sz + (off % sz + i) := by have := Nat.div_add_mod off sz; rw [Nat.mul_comm] at this; omega
            rw [this, Nat.add_comm, Nat.add_mul_mod_self_right, Nat.mod_eq_of_lt (by omega)]
          rw [h1, h2, List.getElem?_eq_getElem hr2, Option.bind_some]
          have := hlen rows[off / sz] (List.getElem_mem hr2)
          rw [List.getElem?_eq_getElem (by omega)]; rfl
        have hin : ao + off + ds.length ≤ arr.size := by
          cases hl : ds.length with
          | zero =>
            simp only at hq3
            have : off < rows.length * sz := by
              have := Nat.div_add_mod off sz
              have h3 : off % sz < sz := Nat.mod_lt _ hsz
              have h4 : (off / sz + 1) * sz ≤ rows.length * sz := Nat.mul_le_mul_right _ (by omega)
              rw [Nat.add_mul] at h4
              rw [Nat.mul_comm] at this; omega
            have : rows.length * sz ≤ cap * sz := Nat.mul_le_mul_right _ hle
            omega
          | succ l =>
            have h1 := hcells l (by omega)
            obtain ⟨d, hd⟩ := Option.isSome_iff_exists.1 h1
            obtain ⟨u, hu, _⟩ := hel (off + l) d (by rw [flat_cellAt hsz hlen]; exact hd)
            have := (Array.getElem?_eq_some_iff.1 hu).1
            simp only at this; omega
        have hrun := run_storeCells_at P b (ao + off) elem vs 0 arr m.w hh (by simp only [Nat.add_zero]; rw [hvl]; exact hin) hone
        simp only [Nat.add_zero] at hrun
        have hstay : ∀ l, .at p.r p.p ≠ l → Stay ω ω m.w (m.w.setRow b (arr.toList.take (ao + off) ++ vs ++ arr.toList.drop (ao + off + vs.length)).toArray) l :=
          fun l hl => setRow_stay hh (by rw [hq1]; exact hl)
        have hnewh := setRow_heap m.w b arr (arr.toList.take (ao + off) ++ vs ++ arr.toList.drop (ao + off + vs.length)).toArray elem (0, 0) hh
        refine ⟨_, hrun, ?_, ⟨rfl, rfl, rfl, by simp [World.setRow], hstay _ (by simp), rfl, rfl, fun _ _ => rfl⟩⟩
        -- the rest of the state
        have hdr : ∀ (q : Pl), (q.r ≠ p.r ∨ True) → ∀ v0, hdR m q.r = some v0 → ((rootCell st q.r).isOwn = true) →
            hdR { m with w := m.w.setRow b (arr.toList.take (ao + off) ++ vs ++ arr.toList.drop (ao + off + vs.length)).toArray } q.r = some v0 := by
          intro q _ v0 hv0 ho
          cases hr : q.r with
          | ref k c =>
            rw [hr] at hv0 ho
            simp only [hdR] at hv0 ⊢
            have hsome : ∃ cs', lookR st.rf k = some cs' := by
              simp only [rootCell] at ho
              cases hl : lookR st.rf k with
              | none => simp [hl, Cell.isOwn] at ho
              | some cs' => exact ⟨cs', rfl⟩
            obtain ⟨cs', hcs'⟩ := hsome
            obtain ⟨_, _, _, hb', _⟩ := h.r.rf k cs' hcs'
            have hne : m.rb k ≠ b := by intro e; rw [e, hq1] at hb'; simp at hb'
            rw [setRow_other _ _ _ _ hne]; exact hv0
          | slot _ _ => rw [hr] at hv0; exact hv0
          | gho _ _ => rw [hr] at hv0; exact hv0
          | res _ => rw [hr] at hv0; exact hv0
        have h0 : R ω m (setRoot st p.r .undef) := h.r.drop p.r
        have hR1 := h0.move (m' := { m with w := m.w.setRow b (arr.toList.take (ao + off) ++ vs ++ arr.toList.drop (ao + off + vs.length)).toArray }) (ω' := ω) (hitN p.r (p.p.length + 1))
          (fun s => .inl rfl) rfl (fun r v c hcc hcne hf hcr => by
            have hrc : rootCell st r = c := by
              rw [rootCell_setRoot] at hcc
              split at hcc
              · subst hcc; exact absurd rfl hcne
              · exact hcc
            refine hcr.keep (hstay _ (by simp)) (fun ho q => hstay _ (fun e => ?_)) (fun _ _ => rfl) (fun p' hp' => ⟨fun v0 hv0 => hdr p' (.inr trivial) v0 hv0 (h.al r p' (by rw [hrc]; exact hp')), fun q hw => hstay _ (fun e => ?_)⟩)
            · injection e with e1 e2
              subst e1
              rw [rootCell_setRoot, if_pos ⟨rfl, hasRoot_of_cell (by rw [hc]; simp)⟩] at hcc
              exact hcne hcc.symm
            · injection e with e1 e2
              obtain ⟨_, t, ht0, ht⟩ := hw
              rcases hitN_not hf hp' with h3 | h3
              · exact h3 e1.symm
              · have : p'.p.length = q.length + t.length := by rw [ht, List.length_append]
                have ht1 : 0 < t.length := List.length_pos_iff.2 ht0
                rw [e2] at h3; omega)
          (fun k hk => by
            refine ⟨rfl, fun arr1 elem1 hb1 hh1 => ⟨?_, hb1⟩⟩
            have hne : m.rb k ≠ b := by intro e; rw [e, hq1] at hb1; simp at hb1
            rw [setRow_other _ _ _ _ hne]; exact hh1)
        rw [filt_setRoot] at hR1
        -- the list itself
        obtain ⟨v0, hv0, hcr0⟩ := h.r.cell (r := p.r) (by rw [hc]; simp)
        rw [hc] at hcr0
        have hv0' := hdr ⟨p.r, []⟩ (.inr trivial) v0 hv0 (by rw [hc]; rfl)
        have hvlt : ao + off + vs.length ≤ arr.toList.length := by rw [hvl]; simpa using hin
        have hnew : CR ω { m with w := m.w.setRow b (arr.toList.take (ao + off) ++ vs ++ arr.toList.drop (ao + off + vs.length)).toArray } p.r v0 (.own sz0 (modP sz0 rows0 p.p (fun sz rows => setCells sz rows off ds))) := by
          refine rd_mod p.p sz0 rows0 [] v0 sz rows hcr0 hpr (fun u hu _ => ?_) (fun q ad' k arr' elem' fz' hn hh' hq' => ?_)
          · -- the very list: u is the slice
            have hequ : u = .slice (some ⟨b, ao, none⟩) rows.length cap := hd_det ⟨v0, hv0, hu⟩ hp
            subst hequ
            simp only [List.nil_append]
            refine ⟨some ⟨b, ao, none⟩, cap, by rw [setCells_length], by rw [setCells_length]; exact hle, setCells_len ds rows off hlen, .inr ⟨⟨b, ao, none⟩, _, elem, (0, 0), rfl, rfl, hnewh, ⟨by simpa using hq1, rfl, ?_⟩, ?_⟩⟩
            · simp only at hq3 ⊢
              simp only [List.size_toArray, List.length_append, List.length_take, List.length_drop, Array.length_toList]
              simp only [Array.length_toList] at hvlt
              omega
            · rw [rdRows_flat, rdCs_iff]
              intro j d hd
              rw [flat_cellAt hsz (setCells_len ds rows off hlen), cellAt_setCells hsz ds rows off j hcells] at hd
              simp only [Nat.zero_add]
              have hg := vsplice_get arr.toList vs (ao + off) (ao + j) hvlt
              rw [List.getElem?_toArray, hg]
              have hcar : ∀ (x : D) (y : Value), ((∀ q, .at p.r p.p ≠ Lab.at p.r (p.p ++ [j] ++ q)) ) → rd m.w x (Qown ω p.r (p.p ++ [j])) y →
                  rd (m.w.setRow b (arr.toList.take (ao + off) ++ vs ++ arr.toList.drop (ao + off + vs.length)).toArray) x (fun q => Qown ω p.r p.p (j :: q)) y := by
                intro x y hx hy
                refine rd_carry _ _ _ _ (fun q ad' k arr' elem' fz' hh' hq' => ?_) hy
                obtain ⟨a1, a2, a3⟩ := hq'
                obtain ⟨s1, s2⟩ := hstay _ (hx q) ad'.block _ hh' a1
                exact ⟨s1, by rw [s2]; simp, a2, a3⟩
              have hnq : ∀ q, (.at p.r p.p : Lab) ≠ Lab.at p.r (p.p ++ [j] ++ q) := by
                intro q e
                injection e with _ e
                have := congrArg List.length e
                simp only [List.length_append, List.length_singleton] at this
                omega
              by_cases hj : off ≤ j ∧ j < off + ds.length
              · rw [if_pos hj] at hd
                rw [if_pos (by rw [hvl]; omega)]
                have hlt : j - off < vs.length := by omega
                refine ⟨vs[j - off], by rw [show ao + j - (ao + off) = j - off by omega]; exact List.getElem?_eq_getElem hlt, ?_⟩
                have := hds (j - off) d _ hd (List.getElem?_eq_getElem hlt)
                rw [show off + (j - off) = j by omega] at this
                exact hcar _ _ hnq this
              · rw [if_neg hj] at hd
                rw [if_neg (by rw [hvl]; omega)]
                obtain ⟨y, hy, hry⟩ := hel j d (by rw [flat_cellAt hsz hlen]; exact hd)
                refine ⟨y, by rw [Array.getElem?_toList]; exact hy, hcar _ _ hnq ?_⟩
                exact rd_carry _ _ _ _ (fun q ad' k arr' elem' fz' hh' hq' => ⟨hh', Qown_cons.1 hq'⟩) hry
          · obtain ⟨a1, a2, a3⟩ := hq'
            obtain ⟨s1, s2⟩ := hstay (.at p.r q) (fun e => by injection e with _ e; exact hn (by rw [e]; exact List.prefix_refl _)) ad'.block _ hh' (by simpa using a1)
            exact ⟨s1, by simpa using s2, a2, a3⟩
        have hR2 := hR1.setRoot (r := p.r) (x := .own sz0 (modP sz0 rows0 p.p (fun sz rows => setCells sz rows off ds))) (fun u hu => by rw [hv0'] at hu; injection hu with hu; subst hu; exact hnew)
        rw [setRoot_setRoot] at hR2
        refine ⟨hR2, fun r p' hp' => ?_⟩
        rw [rootCell_setRoot] at hp' ⊢
        split at hp'
        · simp [Cell.places] at hp'
        · have := (h.al.filt (f := hitN p.r (p.p.length + 1)) (fun c hc => hitN_own hc)) r p' hp'
          split
          · rfl
          · exact this
      · simp at hs
    · simp at hs
  · simp at hs
end
def clearOf (q : Pl) (cs : List Cell) : Bool := cs.all fun c => c.places.all fun p => decide (p.r ≠ q.r) || decide (p.p.length ≤ q.p.length)
def elemDs (st : St) (p : Pl) : List Cell → Option (List D × St)
  | [] => some ([], st)
  | .int k n :: cs => (elemDs st p cs).map fun x => (.int k n :: x.1, x.2)
  | .bool b :: cs => (elemDs st p cs).map fun x => (.bool b :: x.1, x.2)
  | .str s :: cs => (elemDs st p cs).map fun x => (.str s :: x.1, x.2)
  | .own sz [] :: cs => (elemDs st p cs).map fun x => (.lst sz [] :: x.1, x.2)
  | .al q :: cs => if q.r ≠ p.r ∧ clearOf q cs = true then
      match moveOut st q with
      | some (sz, rows, st') => (elemDs st' p cs).map fun x => (.lst sz rows :: x.1, x.2)
      | none => none
    else none
  | _ => none
section
variable {P : Program} {ω : Nat → Lab} {m : Mc} {st : St} {o : Oper} {a : Act}
theorem own_nil_any {v : Value} {sz : Nat} (h : ∀ r, CR ω m r v (.own sz [])) {w : World} {Q : BP} : rd w (.lst sz []) Q v := by
  obtain ⟨a1, cap, hv, hle, hr, h1⟩ := h (.res 0)
  obtain ⟨a2, cap2, hv2, _, _, h2⟩ := h (.res 1)
  rw [hv] at hv2
  injection hv2 with e1 e2 e3
  subst e1; subst e3
  rcases h1 with rfl | ⟨ad, arr, elem, fz, e, _, hh, hq, _⟩
  · exact ⟨a1, 0, hv, Nat.le_refl _, by simp, .inl rfl⟩
  · rcases h2 with rfl | ⟨ad2, arr2, elem2, fz2, e', _, hh2, hq2, _⟩
    · exact ⟨a1, 0, hv, Nat.le_refl _, by simp, .inl rfl⟩
    · rw [e] at e'; injection e' with e'; subst e'
      have := hq.1; rw [hq2.1] at this; simp at this
theorem CR_relab {q : Pl} {d : Root} {dp : Path} {r : Root} {v : Value} {c : Cell} (hc : CR ω m r v c) (ho : c.isOwn = false) (hcl : ∀ p ∈ c.places, p.r ≠ q.r ∨ p.p.length ≤ q.p.length) :
    CR (relab ω q d dp) m r v c :=
  hc.keep (fun b x hx hb => ⟨hx, relab_frame.2 hb⟩) (fun h => by rw [ho] at h; simp at h) (fun _ _ => rfl) (fun p hp => ⟨fun v0 h => h, fun q' hw b x hx hb => ⟨hx, relab_other hb (fun ⟨e, hpre⟩ => by
    rcases hcl p hp with h1 | h1
    · exact h1 e
    · obtain ⟨_, t, ht0, ht⟩ := hw
      have hl := hpre.length_le
      have : p.p.length = q'.length + t.length := by rw [ht, List.length_append]
      have ht1 : 0 < t.length := List.length_pos_iff.2 ht0
      omega)⟩⟩)
theorem elemDs_sound {p : Pl} {u : Value} : ∀ (cs : List Cell) (vs : List Value) (ω : Nat → Lab) (st st' : St) (ds : List D) (o : Nat), RR ω m st →
    vs.length = cs.length → (∀ (i : Nat) v c, vs[i]? = some v → cs[i]? = some c → ∀ r, CR ω m r v c) → elemDs st p cs = some (ds, st') →
    ∃ ω', RR ω' m st' ∧ (hd ω m p u → hd ω' m p u) ∧ (∀ b, ω' b = .frame ↔ ω b = .frame) ∧ (∀ b q, ω b = .at p.r q → ω' b = .at p.r q) ∧ ds.length = cs.length ∧ (∀ v ∈ vs, v.oneCell' = true) ∧
      ∀ (j : Nat) d v, ds[j]? = some d → vs[j]? = some v → rd m.w d (Qown ω' p.r (p.p ++ [o + j])) v
  | [], vs, ω, st, st', ds, o, h, hl, hc, he => by
    simp only [elemDs, Option.some.injEq, Prod.mk.injEq] at he
    obtain ⟨rfl, rfl⟩ := he
    have : vs = [] := List.eq_nil_of_length_eq_zero (by simpa using hl)
    subst this
    exact ⟨ω, h, id, fun _ => Iff.rfl, fun _ _ h => h, rfl, by simp, by simp⟩
  | c :: cs, [], ω, st, st', ds, o, h, hl, hc, he => by simp at hl
  | c :: cs, v :: vs, ω, st, st', ds, o, h, hl, hc, he => by
    have hc0 := hc 0 v c rfl rfl
    have hct : ∀ (i : Nat) v' c', vs[i]? = some v' → cs[i]? = some c' → ∀ r, CR ω m r v' c' := fun i v' c' h1 h2 => hc (i + 1) v' c' (by simpa using h1) (by simpa using h2)
    have hlt : vs.length = cs.length := by simpa using hl
    have plain : ∀ (d : D), (∀ (w : World) (Q : BP), w = m.w → rd w d Q v) → v.oneCell' = true → (elemDs st p cs).map (fun x => (d :: x.1, x.2)) = some (ds, st') →
        ∃ ω', RR ω' m st' ∧ (hd ω m p u → hd ω' m p u) ∧ (∀ b, ω' b = .frame ↔ ω b = .frame) ∧ (∀ b q, ω b = .at p.r q → ω' b = .at p.r q) ∧ ds.length = (c :: cs).length ∧ (∀ x ∈ v :: vs, x.oneCell' = true) ∧
          ∀ (j : Nat) d v', ds[j]? = some d → (v :: vs)[j]? = some v' → rd m.w d (Qown ω' p.r (p.p ++ [o + j])) v' := by
      intro d hd1 hone he1
      rw [Option.map_eq_some_iff] at he1
      obtain ⟨⟨ds1, st1⟩, h1, h2⟩ := he1
      simp only [Prod.mk.injEq] at h2
      obtain ⟨rfl, rfl⟩ := h2
      obtain ⟨ω', a1, a2, a3, a4, a5, a6, a7⟩ := elemDs_sound (u := u) cs vs ω st st1 ds1 (o + 1) h hlt hct h1
      refine ⟨ω', a1, a2, a3, a4, by simp [a5], by simpa [hone] using a6, fun j d' v' hj hv => ?_⟩
      cases j with
      | zero => simp at hj hv; subst hj; subst hv; exact hd1 _ _ rfl
      | succ j => simp at hj hv; have := a7 j d' v' hj hv; rwa [show o + 1 + j = o + (j + 1) by omega] at this
    cases c with
    | int k n => exact plain (.int k n) (fun w Q e => hc0 (.res 0)) (by have := hc0 (.res 0); rw [this]; rfl) he
    | bool b => exact plain (.bool b) (fun w Q e => hc0 (.res 0)) (by have := hc0 (.res 0); rw [this]; rfl) he
    | str s => exact plain (.str s) (fun w Q e => hc0 (.res 0)) (by have := hc0 (.res 0); rw [this]; rfl) he
    | own sz rows =>
      cases rows with
      | nil => exact plain (.lst sz []) (fun w Q e => own_nil_any hc0) (by obtain ⟨_, _, hv, _⟩ := hc0 (.res 0); rw [hv]; rfl) he
      | cons _ _ => simp [elemDs] at he
    | al q =>
      simp only [elemDs] at he
      split at he
      · rename_i hcond
        obtain ⟨hne, hclr⟩ := hcond
        split at he
        · rename_i sz rows st1 hm
          rw [Option.map_eq_some_iff] at he
          obtain ⟨⟨ds1, st2⟩, h1, h2⟩ := he
          simp only [Prod.mk.injEq] at h2
          obtain ⟨rfl, rfl⟩ := h2
          obtain ⟨b1, b2⟩ := moveOut_sound p.r (p.p ++ [o]) h (hc0 (.res 0)).1 hm
          have hp1 : hd ω m p u → hd (relab ω q p.r (p.p ++ [o])) m p u := fun hp => hd_keep (fun v0 h => h) (fun q' _ b x hx hb => ⟨hx, relab_other hb (fun ⟨e, _⟩ => hne e.symm)⟩) hp
          have hct1 : ∀ (i : Nat) v' c', vs[i]? = some v' → cs[i]? = some c' → ∀ r, CR (relab ω q p.r (p.p ++ [o])) m r v' c' := by
            intro i v' c' hi1 hi2 r
            have hcc := List.all_eq_true.1 hclr c' (List.mem_of_getElem? hi2)
            have hh := hct i v' c' hi1 hi2
            by_cases ho : c'.isOwn = true
            · cases c' <;> simp [Cell.isOwn] at ho
              rename_i sz' rows'
              cases rows' with
              | nil => exact own_nil_any hh
              | cons x xs =>
                obtain ⟨_, _, _, _, _, hv1, _, _, hhh, hq1, _⟩ := rd_flat (hh (.res 0)) (by simp)
                obtain ⟨_, _, _, _, _, hv2, _, _, hhh2, hq2, _⟩ := rd_flat (hh (.res 1)) (by simp)
                rw [hv1] at hv2; injection hv2 with e1 e2 e3; injection e1 with e1; subst e1
                have := hq1.1; rw [hq2.1] at this; simp at this
            · refine CR_relab (hh r) (by simpa using ho) (fun p' hp' => ?_)
              have := List.all_eq_true.1 hcc p' hp'
              simpa using this
          obtain ⟨ω', a1, a2, a3, a4, a5, a6, a7⟩ := elemDs_sound (u := u) cs vs _ st1 st2 ds1 (o + 1) b1 hlt hct1 h1
          refine ⟨ω', a1, fun hp => a2 (hp1 hp), fun b => (a3 b).trans relab_frame, fun b q' hb => a4 b q' (relab_other hb (fun ⟨e, _⟩ => hne e.symm)), by simp [a5], ?_, fun j d' v' hj hv => ?_⟩
          · intro x hx
            rcases List.mem_cons.1 hx with rfl | hx
            · have := (hc0 (.res 0)).2
              cases x <;> simp_all [Value.single, Value.oneCell']
            · exact a6 x hx
          · cases j with
            | zero =>
              simp at hj hv; subst hj; subst hv
              exact rd_carry _ _ _ _ (fun q2 ad k arr elem fz hh hq => ⟨hh, a4 _ _ hq.1, hq.2⟩) b2
            | succ j => simp at hj hv; have := a7 j d' v' hj hv; rwa [show o + 1 + j = o + (j + 1) by omega] at this
        · simp at he
      · simp at he
    | _ => simp [elemDs] at he
def SOk (P : Program) (ω : Nat → Lab) (m : Mc) (o : Oper) (a : Act) (st' : St) : Prop :=
  ∃ w' ω', (execOp a.eval o).run P m.w = .ok .skip w' ∧ RR ω' { m with w := w' } st' ∧ Tr ω m ω' { m with w := w' }
def storeSt (st : St) (n : Nat) (y x : XO) (tk : Bool) : Option St :=
  match (evX st x).sh with
  | .no => none
  | .tup _ => none
  | _ => if (evX st x).cs.length = n then (match (evX st y).c1 with
    | .ptr k o => match storeRef st k o (evX st x).cs with
      | some st1 => ownAll st1 (takes x tk (fun j => .ref k (o + j)) 0 (evX st x).cs)
      | none => none
    | .eptr p o => match elemDs st p (evX st x).cs with
      | some (ds, st1) => elemSt st1 p o ds
      | none => none
    | _ => none) else none
theorem sh_ne {x : SV} (h : x.sh = .one ∨ x.sh = .agg) : x.sh ≠ .no := by rcases h with e | e <;> rw [e] <;> simp
theorem e_store {t : TypeId} {n : Nat} {y x : XO} {zy zx : Operand} {tk : Bool} {st' : St} {i : TypeInfo} (h : RR ω m st) (ha : a.tmps = m.T) (ho : o.op = .store t zy zx) (hy : mO zy y = true) (hx : mO zx x = true)
    (hi : P.info? t = some i) (hn : i.size = n) (hs : storeSt st n y x tk = some st') : SOk P ω m o a st' := by
  have main : ((evX st x).sh = .one ∨ (evX st x).sh = .agg) → (evX st x).cs.length = n → (match (evX st y).c1 with
    | .ptr k o => match storeRef st k o (evX st x).cs with
      | some st1 => ownAll st1 (takes x tk (fun j => .ref k (o + j)) 0 (evX st x).cs)
      | none => none
    | .eptr p o => match elemDs st p (evX st x).cs with
      | some (ds, st1) => elemSt st1 p o ds
      | none => none
    | _ => none) = some st' → SOk P ω m o a st' := by
    intro hsh hlen hs
    have hcells : ∀ r, CRs ω m r 0 (a.eval zx).cells.toList (evX st x).cs := fun r => CRs_cells (evX_sound h ha hx r) hsh
    have hal := alOk_mem (sh_ne hsh) (evX_alOk (st := st) h hx)
    have hvl : (a.eval zx).cells.toList.length = n := by rw [((CRs_iff _ _ _ _ _ _).1 (hcells .res)).1]; exact hlen
    have hsz : (a.eval zx).cells.size = i.size := by rw [hn, ← hvl]; simp
    have hex : ∀ (b k : Nat) (w' : World), a.eval zy = .pointer (some ⟨b, k, none⟩) → (storeCells ⟨b, k, none⟩ (a.eval zx).cells.toList).run P m.w = .ok () w' → (execOp a.eval o).run P m.w = .ok .skip w' := by
      intro b k w' hv hr
      simp [execOp, ho, Instr.storeAt, hv, Instr.sureAddr, storeVar, hsz, run_sizeOf hi, hr]
    split at hs
    · rename_i k o' hc
      split at hs
      · rename_i st1 hst
        have hv : a.eval zy = .pointer (some ⟨m.rb k, o', none⟩) := (c1_of h ha hy hc (by simp) (fun _ => .res 0)).1
        obtain ⟨w', h1, h2, h3⟩ := storeRef_sound h hst hcells hal
        obtain ⟨ω', h4, h5⟩ := ownAll_sound h2 hs
        exact ⟨w', ω', hex _ _ _ hv h1, h4, h3.trans (Tr.lab fun b hb => (h5 b).2 hb)⟩
      · simp at hs
    · rename_i p o' hc
      split at hs
      · rename_i ds st1 hds
        obtain ⟨ad, n', cap, hhd, hsp, hv⟩ := (c1_of h ha hy hc (by simp) (fun _ => .res 0)).1
        obtain ⟨b, ao, spot⟩ := ad
        simp only at hsp; subst hsp
        have hcs : ∀ (i : Nat) v c, (a.eval zx).cells.toList[i]? = some v → (evX st x).cs[i]? = some c → ∀ r, CR ω m r v c := fun i v c h1 h2 r => by
          have := ((CRs_iff ω m (fun _ => r) _ _ 0).1 (hcells _)).2 i v c h1 h2
          exact this
        obtain ⟨ω', a1, a2, a3, a4, a5, a6, a7⟩ := elemDs_sound (u := .slice (some ⟨b, ao, none⟩) n' cap) (evX st x).cs (a.eval zx).cells.toList ω st st1 ds o' h (by rw [hvl, hlen]) hcs hds
        obtain ⟨w', b1, b2, b3⟩ := elemSt_sound a1 (a2 hhd) hs (by rw [a5, hvl, hlen]) a6 (fun j d v hj hv => a7 j d v hj hv)
        exact ⟨w', ω', hex _ _ _ hv b1, b2, (Tr.lab fun b hb => (a3 b).2 hb).trans b3⟩
      · simp at hs
    · simp at hs
  unfold storeSt at hs
  cases hsh : (evX st x).sh with
  | no => simp [hsh] at hs
  | tup l => simp [hsh] at hs
  | one =>
    simp only [hsh] at hs
    split at hs
    · rename_i hl; exact main (.inl hsh) hl hs
    · simp at hs
  | agg =>
    simp only [hsh] at hs
    split at hs
    · rename_i hl; exact main (.inr hsh) hl hs
    · simp at hs
end
section
variable {P : Program} {ω : Nat → Lab} {m : Mc} {st : St} {o : Oper} {a : Act}
theorem newList_sound {d : Nat} {sz cap : Nat} {rows : List (List D)} {arr : Array Value} {elem : TypeId} {w0 : World} (h : RR ω m st) (hd : d < m.T.size)
    (hw0 : w0.heap = m.w.heap ∧ w0.os = m.w.os ∧ w0.tape = m.w.tape ∧ w0.output = m.w.output) (hlen : ∀ r ∈ rows, r.length = sz) (hcap : rows.length ≤ cap) (hsz : cap * sz ≤ arr.size)
    (hel : ∀ (j : Nat) x, rows.flatten[j]? = some x → ∃ v, arr[j]? = some v ∧ rd m.w x (Qown ω (.slot d 0) [j]) v)
    (hr : (execOp a.eval o).run P m.w = .ok (.value (.slice (some ⟨m.w.heap.size, 0, none⟩) rows.length cap)) (w0.alloc (.cells arr elem))) :
    EOk P ω m o a d (putSlot st d ⟨.one, [.own sz rows]⟩) := by
  obtain ⟨hw1, hw2, hw3, hw4⟩ := hw0
  have hext : ∀ (b : Nat) (x : Obj), m.w.heap[b]? = some x → (w0.alloc (.cells arr elem)).heap[b]? = some x ∧ upd ω m.w.heap.size (.at (.slot d 0) []) b = ω b := by
    intro b x hx
    have := alloc_ext (w := w0) (obj := .cells arr elem) (ω := ω) (l := .at (.slot d 0) []) b x (by rw [hw1]; exact hx)
    rwa [hw1] at this
  have hnew : (w0.alloc (.cells arr elem)).heap[m.w.heap.size]? = some (.cells arr elem) := by rw [← hw1]; exact alloc_new
  have h1 := h.ext (ω' := upd ω m.w.heap.size (.at (.slot d 0) [])) (w' := w0.alloc (.cells arr elem)) hext
  have hx : SVR (upd ω m.w.heap.size (.at (.slot d 0) [])) { m with w := w0.alloc (.cells arr elem) } (.slot d) (.slice (some ⟨m.w.heap.size, 0, none⟩) rows.length cap) ⟨.one, [.own sz rows]⟩ := by
    refine one_sound rfl ⟨_, cap, rfl, hcap, hlen, .inr ⟨⟨m.w.heap.size, 0, none⟩, arr, elem, (0, 0), rfl, rfl, hnew, ⟨by simp [upd], rfl, by simpa using hsz⟩, ?_⟩⟩
    rw [rdRows_flat, rdCs_iff]
    intro j x hx
    obtain ⟨v, hv, hrd⟩ := hel j x hx
    refine ⟨v, by simpa using hv, ?_⟩
    refine rd_carry _ _ _ _ (fun q ad k arr' elem' fz' hh hq => ?_) hrd
    obtain ⟨a1, a2, a3⟩ := hq
    obtain ⟨s1, s2⟩ := hext _ _ hh
    exact ⟨s1, by rw [s2, a1]; simp, a2, a3⟩
  have h2 := h1.put (d := d) hd hx (one_al (by simp [Cell.places]))
  refine ⟨_, _, _, m.rb, hr, h2, ?_⟩
  refine Tr.trans (m2 := { m with w := w0.alloc (.cells arr elem) }) ⟨hw2, hw3, hw4, ?_, fun b x hx hb => let ⟨a1, a2⟩ := hext b x hx; ⟨a1, by rw [a2]; exact hb⟩, rfl, rfl, fun _ _ => rfl⟩ (Tr.put d _)
  rw [World.size_alloc, hw1]; omega
theorem EOk.lab {ω' : Nat → Lab} {d : Nat} {st' : St} (h : ∀ b, ω' b = .frame ↔ ω b = .frame) (he : EOk P ω' m o a d st') : EOk P ω m o a d st' := by
  obtain ⟨v, w', ω2, rb', h1, h2, h3⟩ := he
  exact ⟨v, w', ω2, rb', h1, h2, (Tr.lab fun b hb => (h b).2 hb).trans h3⟩
def mksSt (st : St) (d sz bytes : Nat) (zero : List D) (l : XO) : Option St :=
  match (evX st l).c1 with
  | .int _ n => if 0 ≤ n ∧ n.toNat * bytes ≤ 140737488355328 ∧ n ≤ 9223372036854775807 ∧ zero.length = sz then some (putSlot st d ⟨.one, [.own sz (List.replicate n.toNat zero)]⟩) else none
  | _ => none
def constD : Value → D → Bool
  | .int k n, .int k' n' => decide (k = k') && decide (n = n')
  | .bool b, .bool b' => b == b'
  | .string s, .str s' => decide (s = s')
  | .slice none 0 0, .lst _ [] => true
  | _, _ => false
def constDs : List Value → List D → Bool
  | [], [] => true
  | v :: vs, c :: cs => constD v c && constDs vs cs
  | _, _ => false
theorem constD_sound {v : Value} {c : D} {w : World} (h : constD v c = true) (Q : BP) : rd w c Q v := by
  unfold constD at h
  split at h
  · simp only [Bool.and_eq_true, decide_eq_true_eq] at h; obtain ⟨rfl, rfl⟩ := h; rfl
  · simp only [beq_iff_eq] at h; subst h; rfl
  · simp only [decide_eq_true_eq] at h; subst h; rfl
  · exact ⟨none, 0, rfl, Nat.le_refl _, by simp, .inl rfl⟩
  · simp at h
theorem constDs_get : ∀ {vs : List Value} {cs : List D}, constDs vs cs = true → vs.length = cs.length ∧ ∀ (i : Nat) c, cs[i]? = some c → ∃ v, vs[i]? = some v ∧ constD v c = true
  | [], [], _ => by simp
  | v :: vs, c :: cs, h => by
    simp only [constDs, Bool.and_eq_true] at h
    obtain ⟨h1, h2⟩ := constDs_get h.2
    refine ⟨by simp [h1], fun i d hd => ?_⟩
    cases i with
    | zero => simp at hd; subst hd; exact ⟨v, rfl, h.1⟩
    | succ i => simp at hd; simpa using h2 i d hd
  | [], _ :: _, h => by simp [constDs] at h
  | _ :: _, [], h => by simp [constDs] at h
theorem flatten_replicate {sz n j : Nat} {zero : List D} (hz : zero.length = sz) {x : D} (h : (List.replicate n zero).flatten[j]? = some x) : zero[j % sz]? = some x ∧ j < n * sz := by
  have hr : ∀ r ∈ List.replicate n zero, r.length = sz := fun r hr => by rw [(List.mem_replicate.1 hr).2]; exact hz
  have hlt := (List.getElem?_eq_some_iff.1 h).1
  have hl : (List.replicate n zero).flatten.length = n * sz := by simp [hz]
  have hsz : 0 < sz := by
    rcases Nat.eq_zero_or_pos sz with e | e
    · rw [hl, e] at hlt; simp at hlt
    · exact e
  rw [flat_cellAt hsz hr] at h
  unfold cellAt at h
  rw [List.getElem?_replicate] at h
  split at h
  · exact ⟨h, by rw [← hl]; exact hlt⟩
  · simp at h
theorem e_mks {d sz bytes : Nat} {zero : List D} {t e : TypeId} {i : TypeInfo} {z : Value} {l : XO} {zl zc : Operand} {st' : St} (h : RR ω m st) (ha : a.tmps = m.T) (hd : d < m.T.size)
    (ho : o.op = .makeSlice t zl zc) (hl : mO zl l = true) (hc : mO zc l = true) (hu : P.underlying t = some (.slice e)) (hi : P.info? e = some i) (hsz : i.size = sz) (hby : i.bytes = bytes) (hz : i.zero = some z)
    (hzc : constDs z.cells.toList zero = true) (hs : mksSt st d sz bytes zero l = some st') : EOk P ω m o a d st' := by
  unfold mksSt at hs
  split at hs
  · rename_i k n hcn
    split at hs
    · rename_i hb
      obtain ⟨h0, h1, h2, h3⟩ := hb
      simp only [Option.some.injEq] at hs; subst hs
      have e1 := eval_int h ha hl hcn
      have e2 := eval_int h ha hc hcn
      obtain ⟨hzl, hzg⟩ := constDs_get hzc
      have hzs : z.cells.size = sz := by rw [← h3, ← hzl]; simp
      have hmul : (bytes : Int) * n ≤ 281474976710656 := by
        have : ((n.toNat * bytes : Nat) : Int) ≤ 140737488355328 := by omega
        rw [Int.natCast_mul, Int.toNat_of_nonneg h0, Int.mul_comm] at this
        omega
      have hrun := run_make (P := P) m.w t e i z hu hi hz k k n n h0 (Int.le_refl _) (by rw [hby]; exact hmul) h2
      have hlr : (List.replicate n.toNat zero).length = n.toNat := by simp
      refine newList_sound (cap := n.toNat) (elem := e) (arr := madeCells z.cells (n.toNat * i.size)) (w0 := m.w) h hd ⟨rfl, rfl, rfl, rfl⟩ (fun r hr => by rw [(List.mem_replicate.1 hr).2]; exact h3) (by rw [hlr]; exact Nat.le_refl _) (by simp [madeCells, hsz]) (fun j x hx => ?_) ?_
      · obtain ⟨hg, hj⟩ := flatten_replicate h3 hx
        obtain ⟨v, hv, hcv⟩ := hzg _ _ hg
        refine ⟨v, ?_, constD_sound hcv _⟩
        have hjs : j % sz < z.cells.size := by rw [hzs]; have := (List.getElem?_eq_some_iff.1 hg).1; omega
        simp only [Array.getElem?_toList] at hv
        have hv' : z.cells[j % sz]'hjs = v := by rw [Array.getElem?_eq_getElem hjs] at hv; injection hv
        simp [madeCells, hsz, hj, hzs]
        rw [getElem!_pos z.cells (j % sz) hjs]; exact hv'
      · rw [hlr]
        simp [execOp, ho, e1, e2, hrun]
    · simp at hs
  · simp at hs
end
def chunk (sz : Nat) : Nat → List D → List (List D)
  | 0, _ => []
  | n + 1, ds => ds.take sz :: chunk sz n (ds.drop sz)
theorem chunk_len {sz : Nat} : ∀ (n : Nat) (ds : List D), ds.length = n * sz → (∀ r ∈ chunk sz n ds, r.length = sz) ∧ (chunk sz n ds).length = n ∧ (chunk sz n ds).flatten = ds
  | 0, ds, h => by
    have : ds = [] := List.eq_nil_of_length_eq_zero (by simpa using h)
    subst this; simp [chunk]
  | n + 1, ds, h => by
    rw [Nat.add_mul] at h
    obtain ⟨h1, h2, h3⟩ := chunk_len (sz := sz) n (ds.drop sz) (by rw [List.length_drop]; omega)
    refine ⟨fun r hr => ?_, by simp [chunk, h2], by simp [chunk, h3]⟩
    rcases List.mem_cons.1 hr with rfl | hr
    · rw [List.length_take]; omega
    · exact h1 r hr
def partCells (st : St) : List XO → Option (List Cell)
  | [] => some []
  | x :: xs => match (evX st x).sh, partCells st xs with
    | .one, some cs => some ((evX st x).cs ++ cs)
    | .agg, some cs => some ((evX st x).cs ++ cs)
    | _, _ => none
def bsliceSt (st : St) (d sz : Nat) (parts : List XO) : Option St :=
  match partCells st parts with
  | some cs => if cs.length = parts.length * sz ∧ (parts.all fun x => (evX st x).cs.length == sz) = true then
      match elemDs st ⟨.slot d 0, []⟩ cs with
      | some (ds, st1) => some (putSlot st1 d ⟨.one, [.own sz (chunk sz parts.length ds)]⟩)
      | none => none
    else none
  | none => none
def mParts : List (Nat × Operand) → List XO → Nat → Bool
  | [], [], _ => true
  | (i, y) :: ys, x :: xs, j => i == j && mO y x && mParts ys xs (j + 1)
  | _, _, _ => false
section
variable {P : Program} {ω : Nat → Lab} {m : Mc} {st : St} {o : Oper} {a : Act}
theorem CRs_append {r : Nat → Root} : ∀ (vs vs' : List Value) (cs cs' : List Cell) (j : Nat), CRs ω m r j vs cs → CRs ω m r (j + cs.length) vs' cs' → CRs ω m r j (vs ++ vs') (cs ++ cs')
  | [], vs', [], cs', j, _, h => by simpa using h
  | v :: vs, vs', c :: cs, cs', j, h, h' => ⟨h.1, CRs_append vs vs' cs cs' (j + 1) h.2 (by rw [List.length_cons] at h'; rwa [show j + 1 + cs.length = j + (cs.length + 1) by omega])⟩
  | [], _, _ :: _, _, _, h, _ => by simp [CRs] at h
  | _ :: _, _, [], _, _, h, _ => by simp [CRs] at h
theorem parts_sound (h : RR ω m st) (ha : a.tmps = m.T) : ∀ (ys : List (Nat × Operand)) (xs : List XO) (j : Nat) (cs : List Cell), mParts ys xs j = true → partCells st xs = some cs →
    ∀ (i : Nat) v c, (ys.flatMap fun y => (a.eval y.2).cells.toList)[i]? = some v → cs[i]? = some c → ∀ r, CR ω m r v c := by
  intro ys
  induction ys with
  | nil => intro xs j cs _ _ i v c hv; simp at hv
  | cons y ys ih =>
    intro xs j cs hm hp i v c hv hc r
    cases xs with
    | nil => simp [mParts] at hm
    | cons x xs =>
      obtain ⟨yi, yo⟩ := y
      simp only [mParts, Bool.and_eq_true] at hm
      have key : ((evX st x).sh = .one ∨ (evX st x).sh = .agg) → ∀ cs', partCells st xs = some cs' → cs = (evX st x).cs ++ cs' → CR ω m r v c := by
        intro hsh cs' hcs' e
        subst e
        have h1 := CRs_cells (evX_sound h ha hm.1.2 (fun _ => r)) hsh
        rw [CRs_iff] at h1
        simp only [List.flatMap_cons] at hv
        by_cases hi : i < (evX st x).cs.length
        · rw [List.getElem?_append_left (by rw [h1.1]; exact hi)] at hv
          rw [List.getElem?_append_left hi] at hc
          exact h1.2 i v c hv hc
        · rw [List.getElem?_append_right (by rw [h1.1]; omega), h1.1] at hv
          rw [List.getElem?_append_right (by omega)] at hc
          exact ih xs (j + 1) cs' hm.2 hcs' _ v c hv hc r
      simp only [partCells] at hp
      split at hp
      · rename_i cs' hsh hcs'; simp only [Option.some.injEq] at hp; exact key (.inl hsh) cs' hcs' hp.symm
      · rename_i cs' hsh hcs'; simp only [Option.some.injEq] at hp; exact key (.inr hsh) cs' hcs' hp.symm
      · simp at hp
theorem foldl_set (cs : List Value) : ∀ (vs : List Value) (off k : Nat) (arr : Array Value), off + k + vs.length ≤ arr.size →
    (vs.zipIdx k).foldl (fun (cs : Array Value) (x : Value × Nat) => cs.setIfInBounds (off + x.2) x.1) arr = (arr.toList.take (off + k) ++ vs ++ arr.toList.drop (off + k + vs.length)).toArray := by
  intro vs
  induction vs with
  | nil => intro off k arr h; simp
  | cons v vs ih =>
    intro off k arr h
    simp only [List.zipIdx_cons, List.foldl_cons]
    rw [ih off (k + 1) _ (by simp at h ⊢; omega)]
    congr 1
    have e := list_seg_step arr.toList (off + k) v vs (by simp at h ⊢; omega)
    simpa [Array.toList_setIfInBounds, Nat.add_assoc] using e
theorem run_fill {sz len : Nat} : ∀ (ps : List (Nat × Value)) (xs : List XO) (j : Nat) (arr : Array Value), arr.size = len * sz → (∀ (i : Nat) p, ps[i]? = some p → p.1 = j + i ∧ p.2.cells.size = sz) → j + ps.length = len →
    Instr.fill (fun i => some (i * sz, sz)) arr ps = some (arr.toList.take (j * sz) ++ ps.flatMap fun p => p.2.cells.toList).toArray := by
  intro ps
  induction ps with
  | nil =>
    intro xs j arr hs hp hl
    simp only [List.length_nil, Nat.add_zero] at hl
    subst hl
    simp only [Instr.fill, List.flatMap_nil, List.append_nil]
    rw [List.take_of_length_le (by simp [hs])]
  | cons p ps ih =>
    intro xs j arr hs hp hl
    obtain ⟨i, v⟩ := p
    obtain ⟨h1, h2⟩ := hp 0 (i, v) rfl
    simp only [Nat.add_zero] at h1 h2
    subst h1
    simp only [List.length_cons] at hl
    have hb : i * sz + sz ≤ len * sz := by
      have : (i + 1) * sz ≤ len * sz := Nat.mul_le_mul_right _ (by omega)
      rw [Nat.add_mul] at this; omega
    have hcond : ¬ (v.cells.size ≠ sz ∨ i * sz + v.cells.size > arr.size) := by rw [h2, hs]; omega
    simp only [Instr.fill, bne_iff_ne, Bool.or_eq_true, decide_eq_true_eq]
    rw [if_neg (by simpa using hcond)]
    have hf : v.cells.zipIdx.foldl (fun (cs : Array Value) (x : Value × Nat) => cs.setIfInBounds (i * sz + x.2) x.1) arr = (arr.toList.take (i * sz) ++ v.cells.toList ++ arr.toList.drop (i * sz + v.cells.toList.length)).toArray := by
      rw [← Array.foldl_toList, Array.toList_zipIdx]
      have := foldl_set [] v.cells.toList (i * sz) 0 arr (by simp [h2, hs]; omega)
      simpa using this
    have hf2 : (v.cells.zipIdx.foldl (fun cs (x, j) => cs.setIfInBounds (i * sz + j) x) arr) = (arr.toList.take (i * sz) ++ v.cells.toList ++ arr.toList.drop (i * sz + v.cells.toList.length)).toArray := hf
    rw [hf2]
    rw [ih xs (i + 1) _ (by simp only [List.size_toArray, List.length_append, List.length_take, List.length_drop, Array.length_toList, h2, hs]; omega) (fun k p hk => by have := hp (k + 1) p (by simpa using hk); exact ⟨by omega, this.2⟩) (by omega)]
    congr 2
    simp only [List.flatMap_cons]
    rw [← List.append_assoc]
    congr 1
    rw [Nat.add_mul, Nat.one_mul]
    have hl1 : (arr.toList.take (i * sz)).length = i * sz := by rw [List.length_take, Array.length_toList, hs]; omega
    have hl2 : (arr.toList.take (i * sz) ++ v.cells.toList).length = i * sz + sz := by rw [List.length_append, hl1, Array.length_toList, h2]
    rw [List.take_append, List.take_of_length_le (by rw [hl2]; exact Nat.le_refl _), hl2]
    simp
theorem run_buildSlice {t e : TypeId} {i : TypeInfo} {z : Value} {len : Nat} {parts : Array (Nat × Value)} {cells : Array Value} {w : World} (hu : P.underlying t = some (.slice e)) (hi : P.info? e = some i)
    (hz : i.zero = some z) (hb : len * i.size ≤ 16777216)
    (hf : Instr.fill (fun k => some (k * i.size, i.size)) ((Array.range (len * i.size)).map (z.cells[· % z.cells.size]!)) parts.toList = some cells) :
    (Instr.buildSlice t len parts).run P w = .ok (.slice (some ⟨w.heap.size, 0, none⟩) len len) (w.alloc (.cells cells e)) := by
  have hb' : ¬ (16777216 < len * i.size) := by omega
  by_cases h0 : len * i.size = 0
  · rw [h0] at hf
    simp only [Array.range_zero', List.map_toArray, List.map_nil, Array.map_empty] at hf
    simp [Instr.buildSlice, run_underlying hu, run_sizeOf hi, h0, newRow, Array.range_zero', hf]
  · simp [Instr.buildSlice, run_underlying hu, run_sizeOf hi, hb', h0, zeroValue, typeInfo, hi, hz, newRow, hf]
theorem e_bslice {d sz : Nat} {t e : TypeId} {i : TypeInfo} {z : Value} {len : Nat} {ps : Array (Nat × Operand)} {parts : List XO} {st' : St} (h : RR ω m st) (ha : a.tmps = m.T) (hd : d < m.T.size)
    (ho : o.op = .buildSlice t len ps) (hp : mParts ps.toList parts 0 = true) (hlen : len = parts.length) (hu : P.underlying t = some (.slice e)) (hi : P.info? e = some i) (hsz : i.size = sz) (hz : i.zero = some z)
    (hzs : z.cells.size = sz) (hbig : len * sz ≤ 16777216) (hs : bsliceSt st d sz parts = some st') : EOk P ω m o a d st' := by
  unfold bsliceSt at hs
  split at hs
  · rename_i cs hcs
    split at hs
    · rename_i hcond
      obtain ⟨hcl, hall⟩ := hcond
      split at hs
      · rename_i ds st1 hds
        simp only [Option.some.injEq] at hs; subst hs
        -- the operands
        have hpl : ∀ (ys : List (Nat × Operand)) (xs : List XO) (j : Nat), mParts ys xs j = true → ys.length = xs.length ∧ ∀ (k : Nat) y, ys[k]? = some y → y.1 = j + k ∧ ∃ x, xs[k]? = some x ∧ mO y.2 x = true := by
          intro ys
          induction ys with
          | nil => intro xs j hm; cases xs <;> simp [mParts] at hm ⊢
          | cons y ys ih =>
            intro xs j hm
            cases xs with
            | nil => simp [mParts] at hm
            | cons x xs =>
              obtain ⟨yi, yo⟩ := y
              simp only [mParts, Bool.and_eq_true, beq_iff_eq] at hm
              obtain ⟨h1, h2⟩ := ih xs (j + 1) hm.2
              refine ⟨by simp [h1], fun k y hk => ?_⟩
              cases k with
              | zero => simp at hk; subst hk; exact ⟨by simp [hm.1.1], x, rfl, hm.1.2⟩
              | succ k => simp at hk; obtain ⟨a1, a2⟩ := h2 k y hk; exact ⟨by omega, by simpa using a2⟩
        obtain ⟨hpl1, hpl2⟩ := hpl ps.toList parts 0 hp
        have hshape : ∀ (xs : List XO) (cs : List Cell), partCells st xs = some cs → ∀ x ∈ xs, (evX st x).sh = .one ∨ (evX st x).sh = .agg := by
          intro xs
          induction xs with
          | nil => intro cs _ x hx; simp at hx
          | cons y ys ih =>
            intro cs hc x hx
            simp only [partCells] at hc
            split at hc
            · rename_i cs' hsh hcs'
              rcases List.mem_cons.1 hx with rfl | hx
              · exact .inl hsh
              · exact ih cs' hcs' x hx
            · rename_i cs' hsh hcs'
              rcases List.mem_cons.1 hx with rfl | hx
              · exact .inr hsh
              · exact ih cs' hcs' x hx
            · simp at hc
        have hsize : ∀ (k : Nat) y, ps.toList[k]? = some y → (a.eval y.2).cells.size = sz := by
          intro k y hk
          obtain ⟨_, x, hx, hmx⟩ := hpl2 k y hk
          have hxm := List.mem_of_getElem? hx
          have h1 := CRs_cells (evX_sound h ha hmx (fun _ => .res 0)) (hshape parts cs hcs x hxm)
          have h2 := ((CRs_iff _ _ _ _ _ _).1 h1).1
          have h3 := List.all_eq_true.1 hall x hxm
          simp only [beq_iff_eq] at h3
          rw [← h3, ← h2]; simp
        have hvl : (ps.toList.flatMap fun y => (a.eval y.2).cells.toList).length = ps.toList.length * sz := by
          have : ∀ (l : List (Nat × Operand)), (∀ y ∈ l, (a.eval y.2).cells.size = sz) → (l.flatMap fun y => (a.eval y.2).cells.toList).length = l.length * sz := by
            intro l
            induction l with
            | nil => intro _; simp
            | cons y l ih => intro hl; simp only [List.flatMap_cons, List.length_append, ih (fun x hx => hl x (by simp [hx])), List.length_cons, Nat.add_mul, Array.length_toList, hl y (by simp)]; omega
          exact this _ (fun y hy => by obtain ⟨k, hk⟩ := List.mem_iff_getElem?.1 hy; exact hsize k y hk)
        have hcr := parts_sound h ha ps.toList parts 0 cs hp hcs
        obtain ⟨ω', a1, _, a3, a4, a5, a6, a7⟩ := elemDs_sound (p := ⟨.slot d 0, []⟩) (u := undef) cs _ ω st st1 ds 0 h (by rw [hvl, hpl1, hcl]) hcr hds
        obtain ⟨c1, c2, c3⟩ := chunk_len (sz := sz) parts.length ds (by rw [a5, hcl])
        refine EOk.lab a3 (newList_sound (cap := parts.length) (elem := e) (arr := (ps.toList.flatMap fun y => (a.eval y.2).cells.toList).toArray) (w0 := m.w) a1 hd ⟨rfl, rfl, rfl, rfl⟩ c1 (by rw [c2]; exact Nat.le_refl _)
          (by rw [List.size_toArray, hvl, hpl1]; exact Nat.le_refl _) (fun j x hx => ?_) ?_)
        · rw [c3] at hx
          have hlt : j < (ps.toList.flatMap fun y => (a.eval y.2).cells.toList).length := by rw [hvl, hpl1, ← hcl, ← a5]; exact (List.getElem?_eq_some_iff.1 hx).1
          refine ⟨_, by rw [List.getElem?_toArray]; exact List.getElem?_eq_getElem hlt, ?_⟩
          have := a7 j x _ hx (List.getElem?_eq_getElem hlt)
          simpa using this
        · rw [c2]
          have hfill := run_fill (sz := sz) (len := len) ((ps.map fun (x : Nat × Operand) => (x.1, a.eval x.2)).toList) parts 0 ((Array.range (len * sz)).map (z.cells[· % z.cells.size]!)) (by simp)
            (fun k p hk => by
              rw [Array.toList_map, List.getElem?_map, Option.map_eq_some_iff] at hk
              obtain ⟨y, hy, rfl⟩ := hk
              exact ⟨(hpl2 k y hy).1, hsize k y hy⟩) (by rw [Array.length_toList, Array.size_map, ← Array.length_toList, hpl1, hlen]; omega)
          simp only [Nat.zero_mul, List.take_zero, List.nil_append] at hfill
          have hfm : ((ps.map fun (x : Nat × Operand) => (x.1, a.eval x.2)).toList.flatMap fun p => p.2.cells.toList) = ps.toList.flatMap fun y => (a.eval y.2).cells.toList := by
            rw [Array.toList_map, List.flatMap_map]
          rw [hfm] at hfill
          have hrun := run_buildSlice (P := P) (w := m.w) hu hi hz (by rw [hsz]; exact hbig) (parts := ps.map fun (x : Nat × Operand) => (x.1, a.eval x.2)) (by rw [hsz]; exact hfill)
          simp only [execOp, ho]
          rw [← hlen]
          simp only [Sem.run_bind]
          rw [show (ps.map fun (x : Nat × Operand) => match x with | (i, x) => (i, a.eval x)) = ps.map fun (x : Nat × Operand) => (x.1, a.eval x.2) from rfl]
          rw [hrun]
          rfl
      · simp at hs
    · simp at hs
  · simp at hs
end
section
variable {P : Program} {ω : Nat → Lab} {m : Mc} {st : St} {o : Oper} {a : Act}
theorem flat_length {sz : Nat} : ∀ (rows : List (List D)), (∀ r ∈ rows, r.length = sz) → rows.flatten.length = rows.length * sz
  | [], _ => by simp
  | r :: rs, h => by
    rw [List.flatten_cons, List.length_append, h r (by simp), flat_length rs (fun x hx => h x (by simp [hx])), List.length_cons, Nat.add_mul]; omega
theorem RR.wrote {d b : Nat} {arr arr' : Array Value} {elem : TypeId} (h : RR ω m st) (hno : (look st.sl d).owns = false) (hl : ω b = .at (.slot d 0) []) (hh : m.w.heap[b]? = some (.cells arr elem (0, 0))) :
    RR ω { m with w := m.w.setRow b arr' } st := by
  have hstay : ∀ l, (.at (.slot d 0) [] : Lab) ≠ l → Stay ω ω m.w (m.w.setRow b arr') l := fun l hx => setRow_stay hh (by rw [hl]; exact hx)
  have hnoroot : ∀ i, (rootCell st (.slot d i)).isOwn = false := by
    intro i
    cases hi : (rootCell st (.slot d i)).isOwn with
    | false => rfl
    | true => rw [SV.owns_get (c := i) hi] at hno; simp at hno
  have hdr : ∀ r v0, hdR m r = some v0 → (rootCell st r).isOwn = true → hdR { m with w := m.w.setRow b arr' } r = some v0 := by
    intro r v0 hv0 ho
    cases r with
    | ref k c =>
      simp only [hdR] at hv0 ⊢
      have hsome : ∃ cs', lookR st.rf k = some cs' := by
        simp only [rootCell] at ho
        cases hl : lookR st.rf k with
        | none => simp [hl, Cell.isOwn] at ho
        | some cs' => exact ⟨cs', rfl⟩
      obtain ⟨cs', hcs'⟩ := hsome
      obtain ⟨_, _, _, hb', _⟩ := h.r.rf k cs' hcs'
      have hne : m.rb k ≠ b := by intro e; rw [e, hl] at hb'; simp at hb'
      rw [setRow_other _ _ _ _ hne]; exact hv0
    | slot _ _ => exact hv0
    | gho _ _ => exact hv0
    | res _ => exact hv0
  refine ⟨?_, h.al⟩
  have := h.r.move (m' := { m with w := m.w.setRow b arr' }) (ω' := ω) (fun _ => false) (fun s => .inl rfl) rfl
    (fun r v c hc hne _ hcr => by
      have hrne : ∀ p, (rootCell st p).isOwn = true → ∀ q, (.at (.slot d 0) [] : Lab) ≠ .at p q := by
        intro p hp q e
        injection e with e _
        subst e
        rw [hnoroot 0] at hp; simp at hp
      refine hcr.keep (hstay _ (by simp)) (fun ho q => hstay _ (hrne r (by rw [hc]; exact ho) q)) (fun _ _ => rfl)
        (fun p hp => ⟨fun v0 hv0 => hdr p.r v0 hv0 (h.al r p (by rw [hc]; exact hp)), fun q _ => hstay _ (hrne p.r (h.al r p (by rw [hc]; exact hp)) q)⟩))
    (fun k hk => by
      refine ⟨rfl, fun arr1 elem1 hb1 hh1 => ⟨?_, hb1⟩⟩
      have hne : m.rb k ≠ b := by intro e; rw [e, hl] at hb1; simp at hb1
      rw [setRow_other _ _ _ _ hne]; exact hh1)
  rwa [St.filt_false] at this
theorem app_core {d sz bytes : Nat} {t ty e : TypeId} {i : TypeInfo} {z : Value} {rows rowsY : List (List D)} {vx vy : Value} {ay : Option Addr} {capy : Nat} {vs : List Value} (h : RR ω m st) (hd : d < m.T.size)
    (hu : P.underlying t = some (.slice e)) (hi : P.info? e = some i) (hsz : i.size = sz) (hby : i.bytes = bytes) (hz : i.zero = some z) (hzs : z.cells.size = sz)
    (hno : (look st.sl d).owns = false)
    (hx : rd m.w (.lst sz rows) (Qown ω (.slot d 0) []) vx)
    (hvy : vy = .slice ay rowsY.length capy) (hly : ∀ r ∈ rowsY, r.length = sz) (hvl : vs.length = rowsY.length * sz) (hone : ∀ v ∈ vs, v.oneCell' = true)
    (hay : vs = [] ∨ ∃ ad, ay = some ad ∧ ad.spot = none ∧ ∀ (j : Nat) v, vs[j]? = some v → m.w.cell? (ad.add j) = some v) (hay0 : rowsY ≠ [] → ∃ ad, ay = some ad)
    (hds : ∀ (j : Nat) x v, rowsY.flatten[j]? = some x → vs[j]? = some v → rd m.w x (Qown ω (.slot d 0) [rows.length * sz + j]) v)
    (hbig : (rows.length + rowsY.length) * bytes ≤ 140737488355328) (hbig2 : rows.length + rowsY.length ≤ 140737488355328)
    (hex : ∀ v w, (Builtin.append_ #[t, t] ty #[vx, vy]).run P m.w = .ok v w → (execOp a.eval o).run P m.w = .ok (.value v) w) :
    EOk P ω m o a d (putSlot st d ⟨.one, [.own sz (rows ++ rowsY)]⟩) := by
  have hx0 := hx
  obtain ⟨ax, cap, hvx, hle, hlen, hmem⟩ := hx
  subst hvy; subst hvx
  have hlen2 : ∀ r ∈ rows ++ rowsY, r.length = sz := fun r hr => by rcases List.mem_append.1 hr with h | h; exact hlen r h; exact hly r h
  have hfx := flat_length rows hlen
  have hfirst : (Builtin.firstCells sz rowsY.length (.slice ay rowsY.length capy)).run P m.w = .ok vs.toArray m.w := by
    rcases hay with rfl | ⟨ad, rfl, hs, hc⟩
    · cases ay with
      | none => exact run_firstCells_none ..
      | some ad => exact run_firstCells_some (P := P) m.w sz rowsY.length ad _ _ [] (by simpa using hvl) (by simp)
    · exact run_firstCells_some (P := P) m.w sz rowsY.length ad _ _ vs hvl hc
  by_cases hroom : rows.length + rowsY.length ≤ cap
  · -- there is room
    rcases hmem with rfl | ⟨ad, arr, elem, fz, rfl, hs, hh, hq, hrw⟩
    · -- nothing to nothing
      have h1 : rows = [] := List.eq_nil_of_length_eq_zero (by omega)
      have h2 : rowsY = [] := List.eq_nil_of_length_eq_zero (by omega)
      subst h1; subst h2
      have hvs : vs = [] := List.eq_nil_of_length_eq_zero (by simpa using hvl)
      subst hvs
      have hrun : (Builtin.append_ #[t, t] ty #[.slice ax 0 0, .slice ay 0 capy]).run P m.w = .ok (.slice ax 0 0) m.w := by
        simp only [List.length_nil] at hfirst
        cases ax with
        | none => simp [Builtin.append_, run_underlying hu, run_sizeOf hi, hsz, Builtin.lenOf, hfirst]
        | some ad => simp [Builtin.append_, run_underlying hu, run_sizeOf hi, hsz, Builtin.lenOf, hfirst, storeCells]
      refine ⟨_, _, ω, m.rb, hex _ _ hrun, h.put (d := d) hd (one_sound rfl ?_) (one_al (by simp [Cell.places])), Tr.put d _⟩
      exact ⟨ax, 0, rfl, Nat.le_refl _, by simp, .inl rfl⟩
    · obtain ⟨b, ao, spot⟩ := ad
      simp only at hs; subst hs
      obtain ⟨hq1, hq2, hq3⟩ := hq
      subst hq2
      simp only [List.append_nil] at hq1
      simp only at hq3 hh hrw
      have hin : ao + rows.length * sz + vs.length ≤ arr.size := by
        have : (rows.length + rowsY.length) * sz ≤ cap * sz := Nat.mul_le_mul_right _ hroom
        rw [Nat.add_mul] at this; omega
      have hst := run_storeCells_at P b (ao + rows.length * sz) elem vs 0 arr m.w hh (by simpa using hin) hone
      simp only [Nat.add_zero] at hst
      have hrun : (Builtin.append_ #[t, t] ty #[.slice (some ⟨b, ao, none⟩) rows.length cap, .slice ay rowsY.length capy]).run P m.w =
          .ok (.slice (some ⟨b, ao, none⟩) (rows.length + rowsY.length) cap) (m.w.setRow b (arr.toList.take (ao + rows.length * sz) ++ vs ++ arr.toList.drop (ao + rows.length * sz + vs.length)).toArray) := by
        simp [Builtin.append_, run_underlying hu, run_sizeOf hi, hsz, Builtin.lenOf, hroom, hfirst, Addr.add_lit, hst]
      have hnewh := setRow_heap m.w b arr (arr.toList.take (ao + rows.length * sz) ++ vs ++ arr.toList.drop (ao + rows.length * sz + vs.length)).toArray elem (0, 0) hh
      have h1 := RR.wrote (arr' := (arr.toList.take (ao + rows.length * sz) ++ vs ++ arr.toList.drop (ao + rows.length * sz + vs.length)).toArray) h hno hq1 hh
      have hstay : ∀ l, (.at (.slot d 0) [] : Lab) ≠ l → Stay ω ω m.w (m.w.setRow b (arr.toList.take (ao + rows.length * sz) ++ vs ++ arr.toList.drop (ao + rows.length * sz + vs.length)).toArray) l := fun l hx => setRow_stay hh (by rw [hq1]; exact hx)
      have hvlt : ao + rows.length * sz + vs.length ≤ arr.toList.length := by simpa using hin
      refine ⟨_, _, ω, m.rb, hex _ _ hrun, h1.put (d := d) hd (one_sound rfl ?_) (one_al (by simp [Cell.places])), Tr.trans (m2 := { m with w := m.w.setRow b (arr.toList.take (ao + rows.length * sz) ++ vs ++ arr.toList.drop (ao + rows.length * sz + vs.length)).toArray }) ⟨rfl, rfl, rfl, by simp [World.setRow], hstay _ (by simp), rfl, rfl, fun _ _ => rfl⟩ (Tr.put d _)⟩
      refine ⟨some ⟨b, ao, none⟩, cap, by rw [List.length_append], by rw [List.length_append]; exact hroom, hlen2, .inr ⟨⟨b, ao, none⟩, _, elem, (0, 0), rfl, rfl, hnewh, ⟨by simpa using hq1, rfl, ?_⟩, ?_⟩⟩
      · simp only [List.size_toArray, List.length_append, List.length_take, List.length_drop, Array.length_toList]
        simp only [Array.length_toList] at hvlt
        omega
      · rw [rdRows_flat, rdCs_iff] at hrw ⊢
        intro j x hxj
        simp only [Nat.zero_add]
        have hg := vsplice_get arr.toList vs (ao + rows.length * sz) (ao + j) hvlt
        rw [List.getElem?_toArray, hg]
        rw [List.flatten_append] at hxj
        have hcar : ∀ (y : Value), rd m.w x (Qown ω (.slot d 0) [j]) y → rd (m.w.setRow b (arr.toList.take (ao + rows.length * sz) ++ vs ++ arr.toList.drop (ao + rows.length * sz + vs.length)).toArray) x (fun q => Qown ω (.slot d 0) [] (j :: q)) y := by
          intro y hy
          refine rd_carry _ _ _ _ (fun q ad' k arr' elem' fz' hh' hq' => ?_) hy
          obtain ⟨a1, a2, a3⟩ := hq'
          obtain ⟨s1, s2⟩ := hstay (.at (.slot d 0) ([j] ++ q)) (by simp) ad'.block _ hh' a1
          exact ⟨s1, by simpa using s2, a2, a3⟩
        by_cases hj : j < rows.flatten.length
        · rw [List.getElem?_append_left hj] at hxj
          rw [if_neg (by rw [hfx] at hj; omega)]
          obtain ⟨y, hy, hry⟩ := hrw j x hxj
          simp only [Nat.zero_add] at hy hry
          exact ⟨y, by rw [Array.getElem?_toList]; exact hy, hcar y (rd_carry _ _ _ _ (fun q ad' k arr' elem' fz' hh' hq' => ⟨hh', Qown_cons.1 hq'⟩) hry)⟩
        · rw [List.getElem?_append_right (by omega), hfx] at hxj
          rw [hfx] at hj
          have hlt : j - rows.length * sz < vs.length := by
            rw [hvl, ← flat_length rowsY hly]; exact (List.getElem?_eq_some_iff.1 hxj).1
          rw [if_pos (by omega)]
          refine ⟨vs[j - rows.length * sz], by rw [show ao + j - (ao + rows.length * sz) = j - rows.length * sz by omega]; exact List.getElem?_eq_getElem hlt, hcar _ ?_⟩
          have := hds (j - rows.length * sz) x _ hxj (List.getElem?_eq_getElem hlt)
          rwa [show rows.length * sz + (j - rows.length * sz) = j by omega] at this
  · -- a new block
    have hne : rowsY ≠ [] := by intro e; subst e; simp only [List.length_nil, Nat.add_zero] at hroom; omega
    obtain ⟨ady, hady⟩ := hay0 hne
    subst hady
    have hnews : ∀ (j : Nat) v, vs[j]? = some v → m.w.cell? (ady.add j) = some v := by
      rcases hay with rfl | ⟨ad, e, hs, hc⟩
      · simp
      · injection e with e; subst e; exact hc
    -- what there was
    obtain ⟨xs, hxl, hxc, hxd⟩ : ∃ xs : List Value, xs.length = rows.length * sz ∧ (∀ (j : Nat) v, xs[j]? = some v → ∃ ad, ax = some ad ∧ m.w.cell? (ad.add j) = some v) ∧
        (∀ (j : Nat) x, rows.flatten[j]? = some x → ∃ v, xs[j]? = some v ∧ rd m.w x (Qown ω (.slot d 0) [j]) v) := by
      rcases hmem with rfl | ⟨ad, arr, elem, fz, rfl, hs, hh, hq, hrw⟩
      · have h1 : rows = [] := List.eq_nil_of_length_eq_zero (by omega)
        subst h1; exact ⟨[], by simp, by simp, by simp⟩
      · obtain ⟨b, ao, spot⟩ := ad
        simp only at hs; subst hs
        obtain ⟨_, _, hq3⟩ := hq
        simp only at hq3 hh hrw
        have hle' : rows.length * sz ≤ cap * sz := Nat.mul_le_mul_right _ hle
        refine ⟨(arr.toList.drop ao).take (rows.length * sz), by rw [List.length_take, Nat.min_eq_left]; rw [List.length_drop]; have := arr.length_toList; omega, fun j v hj => ⟨_, rfl, ?_⟩, fun j x hj => ?_⟩
        · rw [Addr.add_lit, cell?_at hh]
          rw [List.getElem?_take] at hj
          split at hj
          · simpa using hj
          · simp at hj
        · rw [rdRows_flat, rdCs_iff] at hrw
          obtain ⟨v, hv, hr⟩ := hrw j x hj
          simp only [Nat.zero_add] at hv hr
          refine ⟨v, ?_, rd_carry _ _ _ _ (fun q ad' k arr' elem' fz' hh' hq' => ⟨hh', Qown_cons.1 hq'⟩) hr⟩
          rw [List.getElem?_take, if_pos (by rw [← hfx]; exact (List.getElem?_eq_some_iff.1 hj).1), List.getElem?_drop]
          simpa using hv
    have hel : ∀ (news : Array Value), (∀ (j : Nat), j < (rows ++ rowsY).flatten.length → news[j]? = (xs ++ vs)[j]?) → ∀ (j : Nat) x, (rows ++ rowsY).flatten[j]? = some x → ∃ v, news[j]? = some v ∧ rd m.w x (Qown ω (.slot d 0) [j]) v := by
      intro news hnw j x hj
      rw [hnw j (List.getElem?_eq_some_iff.1 hj).1]
      rw [List.flatten_append] at hj
      by_cases hjl : j < rows.flatten.length
      · rw [List.getElem?_append_left hjl] at hj
        rw [List.getElem?_append_left (by rw [hxl, ← hfx]; exact hjl)]
        exact hxd j x hj
      · rw [List.getElem?_append_right (by omega), hfx] at hj
        rw [hfx] at hjl
        rw [List.getElem?_append_right (by rw [hxl]; omega), hxl]
        have hlt : j - rows.length * sz < vs.length := by rw [hvl, ← flat_length rowsY hly]; exact (List.getElem?_eq_some_iff.1 hj).1
        refine ⟨_, List.getElem?_eq_getElem hlt, ?_⟩
        have := hds _ x _ hj (List.getElem?_eq_getElem hlt)
        rwa [show rows.length * sz + (j - rows.length * sz) = j by omega] at this
    have hcut : ∀ (zs : Array Value) (j : Nat), j < (rows ++ rowsY).flatten.length → (xs.toArray ++ vs.toArray ++ zs)[j]? = (xs ++ vs)[j]? := by
      intro zs j hj
      have hl : (rows ++ rowsY).flatten.length = (xs ++ vs).length := by rw [flat_length _ hlen2, List.length_append, List.length_append, hxl, hvl, Nat.add_mul]
      rw [hl] at hj
      rw [Array.getElem?_append_left (by simpa using hj), List.append_toArray, List.getElem?_toArray]
    have hge := grownCap_ge m.w (rows.length + rowsY.length) cap e
    have hsize : ∀ (n : Nat), (xs.toArray ++ vs.toArray ++ Builtin.zeroCells z.cells (n - (rows.length + rowsY.length))).size = (rows.length + rowsY.length) * sz + (n - (rows.length + rowsY.length)) * sz := by
      intro n; simp only [Array.size_append, List.size_toArray, size_zeroCells, hzs, hxl, hvl, ← Nat.add_mul]
    cases ax with
    | none =>
      have hcap0 : cap = 0 := by
        rcases hmem with h | ⟨ad, _, _, _, e, _⟩
        · exact h
        · simp at e
      subst hcap0
      have hr0 : rows = [] := List.eq_nil_of_length_eq_zero (by omega)
      subst hr0
      have hxs : xs = [] := List.eq_nil_of_length_eq_zero (by simpa using hxl)
      subst hxs
      have hpos : 0 < rowsY.length := List.length_pos_iff.2 hne
      simp only [List.length_nil, Nat.zero_add] at hbig hbig2 hge
      have hrun := run_append_nil (P := P) m.w t ty e i z hu hi hz ady rowsY.length capy vs (by rw [hsz]; exact hvl) hnews hpos (by omega) (by rw [hby]; omega)
      refine newList_sound (cap := grownCap m.w rowsY.length 0 e) (elem := e) (arr := vs.toArray ++ Builtin.zeroCells z.cells (grownCap m.w rowsY.length 0 e - rowsY.length)) (w0 := m.w.drew) h hd ⟨rfl, rfl, rfl, rfl⟩ hlen2 (by simpa using hge) ?_ (hel _ (fun j hj => ?_)) (hex _ _ ?_)
      · simp only [Array.size_append, List.size_toArray, size_zeroCells, hzs, hvl, ← Nat.add_mul]
        rw [show rowsY.length + (grownCap m.w rowsY.length 0 e - rowsY.length) = grownCap m.w rowsY.length 0 e by omega]; exact Nat.le_refl _
      · have := hcut (Builtin.zeroCells z.cells (grownCap m.w rowsY.length 0 e - rowsY.length)) j hj
        simpa using this
      · simpa using hrun
    | some adx =>
      have hrun := run_append_grow (P := P) m.w t ty e i z hu hi hz adx rows.length cap xs (by rw [hsz]; exact hxl) (fun j v hj => by obtain ⟨ad, e, hc⟩ := hxc j v hj; injection e with e; subst e; exact hc) ady rowsY.length capy vs (by rw [hsz]; exact hvl) hnews (by omega) (by omega)
        (growslice_fits (by omega) (by rw [hby]; exact hbig))
      refine newList_sound (cap := grownCap m.w (rows.length + rowsY.length) cap e) (elem := e) (arr := xs.toArray ++ vs.toArray ++ Builtin.zeroCells z.cells (grownCap m.w (rows.length + rowsY.length) cap e - (rows.length + rowsY.length))) (w0 := m.w.drew) h hd ⟨rfl, rfl, rfl, rfl⟩ hlen2
        (by rw [List.length_append]; exact hge) ?_ (hel _ (fun j hj => hcut _ j hj)) (hex _ _ (by rw [List.length_append]; exact hrun))
      rw [hsize, ← Nat.add_mul, show rows.length + rowsY.length + (grownCap m.w (rows.length + rowsY.length) cap e - (rows.length + rowsY.length)) = grownCap m.w (rows.length + rowsY.length) cap e by omega]; exact Nat.le_refl _
end
end Go.Eng
