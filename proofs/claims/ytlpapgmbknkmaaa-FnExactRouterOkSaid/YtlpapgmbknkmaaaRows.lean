/-
  No cell of these rows narrows 'for every input' (looked for: loops, veiled, ifaces, maps, wideKeys, modest, calm, conditions, laid).
  DERIVED. THE GIVEN ROWS OF THIS SEAT. 5 by the template 'for every input the law returns true; each argument reads behind the call as it read before'; 0 by the template 'total and deterministic' (their statements: YtlpapgmbknkmaaaTotals.lean).
  GIVEN WITH THE SEED: the statements are not yours to turn. If you find one false, say at which input.
  Laid BY PROGRAM, IN A SANDBOX (cutbox-rows.mjs): the forced cells as the released guide's own fill.sh prints them over the translation dfc41fa17d374578… (all of the seat's roots in one cut). By AI agents, Wed Nov 11 2026. No macro, syntax, notation, axiom, sorry.
-/
import Derived.Test.YtlpapgmbknkmaaaChecked
import GoSem.Claim
import GoSem.ClaimJoined
import GoSem.ClaimMapViews
import Derived.JoinedTies
import Derived.KernelRfl
namespace Go.Proofs.Ytlpapgmbknkmaaa
/- THE CELL 'sum', in the pinned program and in every row, IS THE sha256 OF THE DUMP (.gsa) THAT YtlpapgmbknkmaaaProg.lean LOADS. Nothing in Lean hashes anything: it is a label: what it is worth is what the hold of that sum in a sandbox is worth. -/
noncomputable def Try.pinned : Pinned := { name := "ytlpapgmbknkmaaa", sum := "dfc41fa17d374578933323b39cecc7ce9c15a6f8400a2556281c9f3703dec3ac", checked := Try.checked }
namespace Rows
def none {H : Type} : Left H := { results := [], args := [] }

/-- 'laws.FnExactCallOk': WHATEVER THE INPUT: true; the input reads as it did. -/
def fnExactCallOkSpec : ChangeSpec := { name := "fnExactCallOk", fn := fun _ => fun
  | [d] => { results := [.lit (.bool true)], args := [d] }
  | _ => none }
def fnExactCallOkRow : OpenClaim := { program := "ytlpapgmbknkmaaa", sum := "dfc41fa17d374578933323b39cecc7ce9c15a6f8400a2556281c9f3703dec3ac", func := "loop.example/g00360/laws.FnExactCallOk", spec := "fnExactCallOk", apart := false }
def FnExactCallOkSaid : Prop := fnExactCallOkRow.holds Try.pinned (OpenSpec.ofChange fnExactCallOkSpec)

/-- ITS FALSE NEIGHBOUR: 'it returns false'. Refute it at one input. -/
def fnExactCallOkWrong : ChangeSpec := { name := "fnExactCallOk", fn := fun _ => fun
  | [d] => { results := [.lit (.bool false)], args := [d] }
  | _ => none }
def FnExactCallOkWrongFalsely : Prop := fnExactCallOkRow.holds Try.pinned (OpenSpec.ofChange fnExactCallOkWrong)

/-- 'laws.FnExactMsgOk': WHATEVER THE INPUT: true; the input reads as it did. -/
def fnExactMsgOkSpec : ChangeSpec := { name := "fnExactMsgOk", fn := fun _ => fun
  | [d] => { results := [.lit (.bool true)], args := [d] }
  | _ => none }
def fnExactMsgOkRow : OpenClaim := { program := "ytlpapgmbknkmaaa", sum := "dfc41fa17d374578933323b39cecc7ce9c15a6f8400a2556281c9f3703dec3ac", func := "loop.example/g00360/laws.FnExactMsgOk", spec := "fnExactMsgOk", apart := false }
def FnExactMsgOkSaid : Prop := fnExactMsgOkRow.holds Try.pinned (OpenSpec.ofChange fnExactMsgOkSpec)

/-- ITS FALSE NEIGHBOUR: 'it returns false'. Refute it at one input. -/
def fnExactMsgOkWrong : ChangeSpec := { name := "fnExactMsgOk", fn := fun _ => fun
  | [d] => { results := [.lit (.bool false)], args := [d] }
  | _ => none }
def FnExactMsgOkWrongFalsely : Prop := fnExactMsgOkRow.holds Try.pinned (OpenSpec.ofChange fnExactMsgOkWrong)

/-- 'laws.FnExactShowMsg': WHATEVER THE INPUT: true; the input reads as it did. -/
def fnExactShowMsgSpec : ChangeSpec := { name := "fnExactShowMsg", fn := fun _ => fun
  | [d] => { results := [.lit (.bool true)], args := [d] }
  | _ => none }
def fnExactShowMsgRow : OpenClaim := { program := "ytlpapgmbknkmaaa", sum := "dfc41fa17d374578933323b39cecc7ce9c15a6f8400a2556281c9f3703dec3ac", func := "loop.example/g00360/laws.FnExactShowMsg", spec := "fnExactShowMsg", apart := false }
def FnExactShowMsgSaid : Prop := fnExactShowMsgRow.holds Try.pinned (OpenSpec.ofChange fnExactShowMsgSpec)

/-- ITS FALSE NEIGHBOUR: 'it returns false'. Refute it at one input. -/
def fnExactShowMsgWrong : ChangeSpec := { name := "fnExactShowMsg", fn := fun _ => fun
  | [d] => { results := [.lit (.bool false)], args := [d] }
  | _ => none }
def FnExactShowMsgWrongFalsely : Prop := fnExactShowMsgRow.holds Try.pinned (OpenSpec.ofChange fnExactShowMsgWrong)

/-- 'laws.FnExactRouterOk': WHATEVER THE INPUT: true; the input reads as it did. -/
def fnExactRouterOkSpec : ChangeSpec := { name := "fnExactRouterOk", fn := fun _ => fun
  | [d] => { results := [.lit (.bool true)], args := [d] }
  | _ => none }
def fnExactRouterOkRow : OpenClaim := { program := "ytlpapgmbknkmaaa", sum := "dfc41fa17d374578933323b39cecc7ce9c15a6f8400a2556281c9f3703dec3ac", func := "loop.example/g00360/laws.FnExactRouterOk", spec := "fnExactRouterOk", unfollowed := true, recurses := true, apart := false }
def FnExactRouterOkSaid : Prop := fnExactRouterOkRow.holds Try.pinned (OpenSpec.ofChange fnExactRouterOkSpec)

/-- ITS FALSE NEIGHBOUR: 'it returns false'. Refute it at one input. -/
def fnExactRouterOkWrong : ChangeSpec := { name := "fnExactRouterOk", fn := fun _ => fun
  | [d] => { results := [.lit (.bool false)], args := [d] }
  | _ => none }
def FnExactRouterOkWrongFalsely : Prop := fnExactRouterOkRow.holds Try.pinned (OpenSpec.ofChange fnExactRouterOkWrong)

/-- 'laws.FnExactReadMsg': WHATEVER THE INPUT: true; the input reads as it did. -/
def fnExactReadMsgSpec : ChangeSpec := { name := "fnExactReadMsg", fn := fun _ => fun
  | [d] => { results := [.lit (.bool true)], args := [d] }
  | _ => none }
def fnExactReadMsgRow : OpenClaim := { program := "ytlpapgmbknkmaaa", sum := "dfc41fa17d374578933323b39cecc7ce9c15a6f8400a2556281c9f3703dec3ac", func := "loop.example/g00360/laws.FnExactReadMsg", spec := "fnExactReadMsg", apart := false }
def FnExactReadMsgSaid : Prop := fnExactReadMsgRow.holds Try.pinned (OpenSpec.ofChange fnExactReadMsgSpec)

/-- ITS FALSE NEIGHBOUR: 'it returns false'. Refute it at one input. -/
def fnExactReadMsgWrong : ChangeSpec := { name := "fnExactReadMsg", fn := fun _ => fun
  | [d] => { results := [.lit (.bool false)], args := [d] }
  | _ => none }
def FnExactReadMsgWrongFalsely : Prop := fnExactReadMsgRow.holds Try.pinned (OpenSpec.ofChange fnExactReadMsgWrong)

/- THE SECOND FORM. 'bulk': how many values and letters a reading holds, each counted each time it is reached (what is shared counts as often as it is met; a slice's spare places count too). A statement '..UptoSaid' is the law's where the arguments, and the package variables that the reading takes, are together of bulk at most 1048576: NARROWER than '..Said'. Prove '..Said' where nothing that the law and all that it calls make is longer than what came in: it says more and counts as full. Else prove '..UptoSaid'. A law counts once. -/
mutual
def uptoBulk {H : Type} : DataW H → Nat
  | .lit (.string bytes) => bytes.length + 1
  | .lit _ => 1
  | .nil => 1
  | .ptr d => uptoBulk d + 1
  | .slice elems spare => uptoBulkAll elems + uptoBulkAll spare + 1
  | .agg parts => uptoBulkAll parts + 1
  | .iface _ d => uptoBulk d + 1
  | .map entries => uptoBulkEntries entries + 1
  | .held _ => 1
def uptoBulkAll {H : Type} : List (DataW H) → Nat
  | [] => 0
  | d :: r => uptoBulk d + uptoBulkAll r
def uptoBulkEntries {H : Type} : List (Lit × DataW H) → Nat
  | [] => 0
  | x :: r => uptoBulkEntry x + uptoBulkEntries r
def uptoBulkEntry {H : Type} : Lit × DataW H → Nat
  | (.string bytes, d) => bytes.length + uptoBulk d + 1
  | (_, d) => uptoBulk d + 1
 end
def uptoSmall : (H : Type) → List (DataW H) → Bool := fun _ ds => decide (uptoBulkAll ds ≤ 1048576)
def OpenSpec.upto (s : _root_.Go.ChangeSpec) : _root_.Go.OpenSpec := { _root_.Go.OpenSpec.ofChange s with cond := some uptoSmall }

/-- 'laws.FnExactCallOk', WHERE WHAT IT READS IS OF BULK AT MOST 1048576: true; the input reads as it did. -/
def fnExactCallOkUptoRow : OpenClaim := { program := "ytlpapgmbknkmaaa", sum := "dfc41fa17d374578933323b39cecc7ce9c15a6f8400a2556281c9f3703dec3ac", func := "loop.example/g00360/laws.FnExactCallOk", spec := "fnExactCallOk", apart := false, narrowed := true }
def FnExactCallOkUptoSaid : Prop := fnExactCallOkUptoRow.holds Try.pinned (OpenSpec.upto fnExactCallOkSpec)

/-- 'laws.FnExactMsgOk', WHERE WHAT IT READS IS OF BULK AT MOST 1048576: true; the input reads as it did. -/
def fnExactMsgOkUptoRow : OpenClaim := { program := "ytlpapgmbknkmaaa", sum := "dfc41fa17d374578933323b39cecc7ce9c15a6f8400a2556281c9f3703dec3ac", func := "loop.example/g00360/laws.FnExactMsgOk", spec := "fnExactMsgOk", apart := false, narrowed := true }
def FnExactMsgOkUptoSaid : Prop := fnExactMsgOkUptoRow.holds Try.pinned (OpenSpec.upto fnExactMsgOkSpec)

/-- 'laws.FnExactShowMsg', WHERE WHAT IT READS IS OF BULK AT MOST 1048576: true; the input reads as it did. -/
def fnExactShowMsgUptoRow : OpenClaim := { program := "ytlpapgmbknkmaaa", sum := "dfc41fa17d374578933323b39cecc7ce9c15a6f8400a2556281c9f3703dec3ac", func := "loop.example/g00360/laws.FnExactShowMsg", spec := "fnExactShowMsg", apart := false, narrowed := true }
def FnExactShowMsgUptoSaid : Prop := fnExactShowMsgUptoRow.holds Try.pinned (OpenSpec.upto fnExactShowMsgSpec)

/-- 'laws.FnExactRouterOk', WHERE WHAT IT READS IS OF BULK AT MOST 1048576: true; the input reads as it did. -/
def fnExactRouterOkUptoRow : OpenClaim := { program := "ytlpapgmbknkmaaa", sum := "dfc41fa17d374578933323b39cecc7ce9c15a6f8400a2556281c9f3703dec3ac", func := "loop.example/g00360/laws.FnExactRouterOk", spec := "fnExactRouterOk", unfollowed := true, recurses := true, apart := false, narrowed := true }
def FnExactRouterOkUptoSaid : Prop := fnExactRouterOkUptoRow.holds Try.pinned (OpenSpec.upto fnExactRouterOkSpec)

/-- 'laws.FnExactReadMsg', WHERE WHAT IT READS IS OF BULK AT MOST 1048576: true; the input reads as it did. -/
def fnExactReadMsgUptoRow : OpenClaim := { program := "ytlpapgmbknkmaaa", sum := "dfc41fa17d374578933323b39cecc7ce9c15a6f8400a2556281c9f3703dec3ac", func := "loop.example/g00360/laws.FnExactReadMsg", spec := "fnExactReadMsg", apart := false, narrowed := true }
def FnExactReadMsgUptoSaid : Prop := fnExactReadMsgUptoRow.holds Try.pinned (OpenSpec.upto fnExactReadMsgSpec)

end Rows
end Go.Proofs.Ytlpapgmbknkmaaa
