/-
  No cell of these rows narrows 'for every input' (looked for: loops, veiled, ifaces, maps, wideKeys, modest, calm, conditions, laid).
  DERIVED. THE GIVEN ROWS OF THIS SEAT. 7 by the template 'for every input the law returns true; each argument reads behind the call as it read before'; 0 by the template 'total and deterministic' (their statements: YtlpapgmbknkmaaaGreatTotals.lean).
  GIVEN WITH THE SEED: the statements are not yours to turn. If you find one false, say at which input.
  Laid BY PROGRAM, IN A SANDBOX (cutbox-rows.mjs): the forced cells as the released guide's own fill.sh prints them over the translation 21d98b6394da261f… (all of the seat's roots in one cut). By AI agents, Wed Nov 11 2026. No macro, syntax, notation, axiom, sorry.
-/
import Derived.Test.YtlpapgmbknkmaaaGreatChecked
import GoSem.Claim
import GoSem.ClaimJoined
import GoSem.ClaimMapViews
import Derived.JoinedTies
import Derived.KernelRfl
namespace Go.Proofs.YtlpapgmbknkmaaaGreat
/- THE CELL 'sum', in the pinned program and in every row, IS THE sha256 OF THE DUMP (.gsa) THAT YtlpapgmbknkmaaaGreatProg.lean LOADS. Nothing in Lean hashes anything: it is a label: what it is worth is what the hold of that sum in a sandbox is worth. -/
noncomputable def Tryz.pinned : Pinned := { name := "ytlpapgmbknkmaaagreat", sum := "21d98b6394da261fe206fbc5d9f3ae8e4d0f74936758e6565ce26a87cc6b1aca", checked := Tryz.checked }
namespace Rows
def none {H : Type} : Left H := { results := [], args := [] }

/-- 'laws.FnTurned': WHATEVER THE INPUT: true; the input reads as it did. -/
def fnTurnedSpec : ChangeSpec := { name := "fnTurned", fn := fun _ => fun
  | [d] => { results := [.lit (.bool true)], args := [d] }
  | _ => none }
def fnTurnedRow : OpenClaim := { program := "ytlpapgmbknkmaaagreat", sum := "21d98b6394da261fe206fbc5d9f3ae8e4d0f74936758e6565ce26a87cc6b1aca", func := "loop.example/g00360/laws.FnTurned", spec := "fnTurned", apart := false }
def FnTurnedSaid : Prop := fnTurnedRow.holds Tryz.pinned (OpenSpec.ofChange fnTurnedSpec)

/-- ITS FALSE NEIGHBOUR: 'it returns false'. Refute it at one input. -/
def fnTurnedWrong : ChangeSpec := { name := "fnTurned", fn := fun _ => fun
  | [d] => { results := [.lit (.bool false)], args := [d] }
  | _ => none }
def FnTurnedWrongFalsely : Prop := fnTurnedRow.holds Tryz.pinned (OpenSpec.ofChange fnTurnedWrong)

/-- 'laws.FnExactRouterSay': WHATEVER THE INPUT: true; the input reads as it did. -/
def fnExactRouterSaySpec : ChangeSpec := { name := "fnExactRouterSay", fn := fun _ => fun
  | [d1, d2] => { results := [.lit (.bool true)], args := [d1, d2] }
  | _ => none }
def fnExactRouterSayRow : OpenClaim := { program := "ytlpapgmbknkmaaagreat", sum := "21d98b6394da261fe206fbc5d9f3ae8e4d0f74936758e6565ce26a87cc6b1aca", func := "loop.example/g00360/laws.FnExactRouterSay", spec := "fnExactRouterSay", unfollowed := true, recurses := true, apart := false }
def FnExactRouterSaySaid : Prop := fnExactRouterSayRow.holds Tryz.pinned (OpenSpec.ofChange fnExactRouterSaySpec)

/-- ITS FALSE NEIGHBOUR: 'it returns false'. Refute it at one input. -/
def fnExactRouterSayWrong : ChangeSpec := { name := "fnExactRouterSay", fn := fun _ => fun
  | [d1, d2] => { results := [.lit (.bool false)], args := [d1, d2] }
  | _ => none }
def FnExactRouterSayWrongFalsely : Prop := fnExactRouterSayRow.holds Tryz.pinned (OpenSpec.ofChange fnExactRouterSayWrong)

/-- 'laws.FnTexts': WHATEVER THE INPUT: true; the input reads as it did. -/
def fnTextsSpec : ChangeSpec := { name := "fnTexts", fn := fun _ => fun
  | [d] => { results := [.lit (.bool true)], args := [d] }
  | _ => none }
def fnTextsRow : OpenClaim := { program := "ytlpapgmbknkmaaagreat", sum := "21d98b6394da261fe206fbc5d9f3ae8e4d0f74936758e6565ce26a87cc6b1aca", func := "loop.example/g00360/laws.FnTexts", spec := "fnTexts", apart := false }
def FnTextsSaid : Prop := fnTextsRow.holds Tryz.pinned (OpenSpec.ofChange fnTextsSpec)

/-- ITS FALSE NEIGHBOUR: 'it returns false'. Refute it at one input. -/
def fnTextsWrong : ChangeSpec := { name := "fnTexts", fn := fun _ => fun
  | [d] => { results := [.lit (.bool false)], args := [d] }
  | _ => none }
def FnTextsWrongFalsely : Prop := fnTextsRow.holds Tryz.pinned (OpenSpec.ofChange fnTextsWrong)

/-- 'laws.FnExactRouterCall': WHATEVER THE INPUT: true; the input reads as it did. -/
def fnExactRouterCallSpec : ChangeSpec := { name := "fnExactRouterCall", fn := fun _ => fun
  | [d1, d2, d3] => { results := [.lit (.bool true)], args := [d1, d2, d3] }
  | _ => none }
def fnExactRouterCallRow : OpenClaim := { program := "ytlpapgmbknkmaaagreat", sum := "21d98b6394da261fe206fbc5d9f3ae8e4d0f74936758e6565ce26a87cc6b1aca", func := "loop.example/g00360/laws.FnExactRouterCall", spec := "fnExactRouterCall", unfollowed := true, recurses := true, apart := false }
def FnExactRouterCallSaid : Prop := fnExactRouterCallRow.holds Tryz.pinned (OpenSpec.ofChange fnExactRouterCallSpec)

/-- ITS FALSE NEIGHBOUR: 'it returns false'. Refute it at one input. -/
def fnExactRouterCallWrong : ChangeSpec := { name := "fnExactRouterCall", fn := fun _ => fun
  | [d1, d2, d3] => { results := [.lit (.bool false)], args := [d1, d2, d3] }
  | _ => none }
def FnExactRouterCallWrongFalsely : Prop := fnExactRouterCallRow.holds Tryz.pinned (OpenSpec.ofChange fnExactRouterCallWrong)

/-- 'laws.FnCalled': WHATEVER THE INPUT: true; the input reads as it did. -/
def fnCalledSpec : ChangeSpec := { name := "fnCalled", fn := fun _ => fun
  | [d] => { results := [.lit (.bool true)], args := [d] }
  | _ => none }
def fnCalledRow : OpenClaim := { program := "ytlpapgmbknkmaaagreat", sum := "21d98b6394da261fe206fbc5d9f3ae8e4d0f74936758e6565ce26a87cc6b1aca", func := "loop.example/g00360/laws.FnCalled", spec := "fnCalled", unfollowed := true, recurses := true, apart := false }
def FnCalledSaid : Prop := fnCalledRow.holds Tryz.pinned (OpenSpec.ofChange fnCalledSpec)

/-- ITS FALSE NEIGHBOUR: 'it returns false'. Refute it at one input. -/
def fnCalledWrong : ChangeSpec := { name := "fnCalled", fn := fun _ => fun
  | [d] => { results := [.lit (.bool false)], args := [d] }
  | _ => none }
def FnCalledWrongFalsely : Prop := fnCalledRow.holds Tryz.pinned (OpenSpec.ofChange fnCalledWrong)

/-- 'laws.FnRouter': WHATEVER THE INPUT: true; the input reads as it did. -/
def fnRouterSpec : ChangeSpec := { name := "fnRouter", fn := fun _ => fun
  | [d] => { results := [.lit (.bool true)], args := [d] }
  | _ => none }
def fnRouterRow : OpenClaim := { program := "ytlpapgmbknkmaaagreat", sum := "21d98b6394da261fe206fbc5d9f3ae8e4d0f74936758e6565ce26a87cc6b1aca", func := "loop.example/g00360/laws.FnRouter", spec := "fnRouter", inPlace := ["slices.overlaps[loop.example/g00360/impl.Point]"], unfollowed := true, recurses := true, apart := false }
def FnRouterSaid : Prop := fnRouterRow.holds Tryz.pinned (OpenSpec.ofChange fnRouterSpec)

/-- ITS FALSE NEIGHBOUR: 'it returns false'. Refute it at one input. -/
def fnRouterWrong : ChangeSpec := { name := "fnRouter", fn := fun _ => fun
  | [d] => { results := [.lit (.bool false)], args := [d] }
  | _ => none }
def FnRouterWrongFalsely : Prop := fnRouterRow.holds Tryz.pinned (OpenSpec.ofChange fnRouterWrong)

/-- 'laws.FnRead': WHATEVER THE INPUT: true; the input reads as it did. -/
def fnReadSpec : ChangeSpec := { name := "fnRead", fn := fun _ => fun
  | [d] => { results := [.lit (.bool true)], args := [d] }
  | _ => none }
def fnReadRow : OpenClaim := { program := "ytlpapgmbknkmaaagreat", sum := "21d98b6394da261fe206fbc5d9f3ae8e4d0f74936758e6565ce26a87cc6b1aca", func := "loop.example/g00360/laws.FnRead", spec := "fnRead", inPlace := ["internal/bytealg.abigen_runtime_cmpstring", "slices.overlaps[loop.example/g00360/impl.Point]", "slices.overlaps[loop.example/g00360/impl.Series]", "slices.overlaps[loop.example/g00360/impl.Bucket]"], unfollowed := true, recurses := true, apart := false }
def FnReadSaid : Prop := fnReadRow.holds Tryz.pinned (OpenSpec.ofChange fnReadSpec)

/-- ITS FALSE NEIGHBOUR: 'it returns false'. Refute it at one input. -/
def fnReadWrong : ChangeSpec := { name := "fnRead", fn := fun _ => fun
  | [d] => { results := [.lit (.bool false)], args := [d] }
  | _ => none }
def FnReadWrongFalsely : Prop := fnReadRow.holds Tryz.pinned (OpenSpec.ofChange fnReadWrong)

/- THE SECOND FORM. 'bulk': how many values and letters a reading holds, each counted each time it is reached (what is shared counts as often as it is met; a slice's spare places count too). A statement '..UptoSaid' is the law's where the arguments, and the package variables that the reading takes, are together of bulk at most 1048576: NARROWER than '..Said'. Prove '..Said' where nothing that the law and all that it calls make is longer than what came in: it says more and counts as full. Else prove '..UptoSaid'. A law counts once. -/
mutual
def uptoBulk {H : Type} : DataW H → Nat
  | .lit (.string bytes) => bytes.length + 1
  | .lit _ => 1
  | .nil => 1
  | .ptr d => uptoBulk d + 1
  | .slice elems spare => uptoBulkAll elems + uptoBulkAll spare + 1
  | .agg parts => uptoBulkAll parts + 1
  | .iface _ d => uptoBulk d + 1
  | .map entries => uptoBulkEntries entries + 1
  | .held _ => 1
def uptoBulkAll {H : Type} : List (DataW H) → Nat
  | [] => 0
  | d :: r => uptoBulk d + uptoBulkAll r
def uptoBulkEntries {H : Type} : List (Lit × DataW H) → Nat
  | [] => 0
  | x :: r => uptoBulkEntry x + uptoBulkEntries r
def uptoBulkEntry {H : Type} : Lit × DataW H → Nat
  | (.string bytes, d) => bytes.length + uptoBulk d + 1
  | (_, d) => uptoBulk d + 1
 end
def uptoSmall : (H : Type) → List (DataW H) → Bool := fun _ ds => decide (uptoBulkAll ds ≤ 1048576)
def OpenSpec.upto (s : _root_.Go.ChangeSpec) : _root_.Go.OpenSpec := { _root_.Go.OpenSpec.ofChange s with cond := some uptoSmall }

/-- 'laws.FnTurned', WHERE WHAT IT READS IS OF BULK AT MOST 1048576: true; the input reads as it did. -/
def fnTurnedUptoRow : OpenClaim := { program := "ytlpapgmbknkmaaagreat", sum := "21d98b6394da261fe206fbc5d9f3ae8e4d0f74936758e6565ce26a87cc6b1aca", func := "loop.example/g00360/laws.FnTurned", spec := "fnTurned", apart := false, narrowed := true }
def FnTurnedUptoSaid : Prop := fnTurnedUptoRow.holds Tryz.pinned (OpenSpec.upto fnTurnedSpec)

/-- 'laws.FnExactRouterSay', WHERE WHAT IT READS IS OF BULK AT MOST 1048576: true; the input reads as it did. -/
def fnExactRouterSayUptoRow : OpenClaim := { program := "ytlpapgmbknkmaaagreat", sum := "21d98b6394da261fe206fbc5d9f3ae8e4d0f74936758e6565ce26a87cc6b1aca", func := "loop.example/g00360/laws.FnExactRouterSay", spec := "fnExactRouterSay", unfollowed := true, recurses := true, apart := false, narrowed := true }
def FnExactRouterSayUptoSaid : Prop := fnExactRouterSayUptoRow.holds Tryz.pinned (OpenSpec.upto fnExactRouterSaySpec)

/-- 'laws.FnTexts', WHERE WHAT IT READS IS OF BULK AT MOST 1048576: true; the input reads as it did. -/
def fnTextsUptoRow : OpenClaim := { program := "ytlpapgmbknkmaaagreat", sum := "21d98b6394da261fe206fbc5d9f3ae8e4d0f74936758e6565ce26a87cc6b1aca", func := "loop.example/g00360/laws.FnTexts", spec := "fnTexts", apart := false, narrowed := true }
def FnTextsUptoSaid : Prop := fnTextsUptoRow.holds Tryz.pinned (OpenSpec.upto fnTextsSpec)

/-- 'laws.FnExactRouterCall', WHERE WHAT IT READS IS OF BULK AT MOST 1048576: true; the input reads as it did. -/
def fnExactRouterCallUptoRow : OpenClaim := { program := "ytlpapgmbknkmaaagreat", sum := "21d98b6394da261fe206fbc5d9f3ae8e4d0f74936758e6565ce26a87cc6b1aca", func := "loop.example/g00360/laws.FnExactRouterCall", spec := "fnExactRouterCall", unfollowed := true, recurses := true, apart := false, narrowed := true }
def FnExactRouterCallUptoSaid : Prop := fnExactRouterCallUptoRow.holds Tryz.pinned (OpenSpec.upto fnExactRouterCallSpec)

/-- 'laws.FnCalled', WHERE WHAT IT READS IS OF BULK AT MOST 1048576: true; the input reads as it did. -/
def fnCalledUptoRow : OpenClaim := { program := "ytlpapgmbknkmaaagreat", sum := "21d98b6394da261fe206fbc5d9f3ae8e4d0f74936758e6565ce26a87cc6b1aca", func := "loop.example/g00360/laws.FnCalled", spec := "fnCalled", unfollowed := true, recurses := true, apart := false, narrowed := true }
def FnCalledUptoSaid : Prop := fnCalledUptoRow.holds Tryz.pinned (OpenSpec.upto fnCalledSpec)

/-- 'laws.FnRouter', WHERE WHAT IT READS IS OF BULK AT MOST 1048576: true; the input reads as it did. -/
def fnRouterUptoRow : OpenClaim := { program := "ytlpapgmbknkmaaagreat", sum := "21d98b6394da261fe206fbc5d9f3ae8e4d0f74936758e6565ce26a87cc6b1aca", func := "loop.example/g00360/laws.FnRouter", spec := "fnRouter", inPlace := ["slices.overlaps[loop.example/g00360/impl.Point]"], unfollowed := true, recurses := true, apart := false, narrowed := true }
def FnRouterUptoSaid : Prop := fnRouterUptoRow.holds Tryz.pinned (OpenSpec.upto fnRouterSpec)

/-- 'laws.FnRead', WHERE WHAT IT READS IS OF BULK AT MOST 1048576: true; the input reads as it did. -/
def fnReadUptoRow : OpenClaim := { program := "ytlpapgmbknkmaaagreat", sum := "21d98b6394da261fe206fbc5d9f3ae8e4d0f74936758e6565ce26a87cc6b1aca", func := "loop.example/g00360/laws.FnRead", spec := "fnRead", inPlace := ["internal/bytealg.abigen_runtime_cmpstring", "slices.overlaps[loop.example/g00360/impl.Point]", "slices.overlaps[loop.example/g00360/impl.Series]", "slices.overlaps[loop.example/g00360/impl.Bucket]"], unfollowed := true, recurses := true, apart := false, narrowed := true }
def FnReadUptoSaid : Prop := fnReadUptoRow.holds Tryz.pinned (OpenSpec.upto fnReadSpec)

end Rows
end Go.Proofs.YtlpapgmbknkmaaaGreat
