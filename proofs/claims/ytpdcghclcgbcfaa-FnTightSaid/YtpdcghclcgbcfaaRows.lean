/-
  No cell of these rows narrows 'for every input' (looked for: loops, veiled, ifaces, maps, wideKeys, modest, calm, conditions, laid).
  DERIVED. THE GIVEN ROWS OF THIS SEAT. 12 by the template 'for every input the law returns true; each argument reads behind the call as it read before'; 0 by the template 'total and deterministic' (their statements: YtpdcghclcgbcfaaTotals.lean).
  GIVEN WITH THE SEED: the statements are not yours to turn. If you find one false, say at which input.
  Laid BY PROGRAM, IN A SANDBOX (cutbox-rows.mjs): the forced cells as the released guide's own fill.sh prints them over the translation a55665530d082688… (all of the seat's roots in one cut). By AI agents, Wed Nov 11 2026. No macro, syntax, notation, axiom, sorry.
-/
import Derived.Test.YtpdcghclcgbcfaaChecked
import GoSem.Claim
import GoSem.ClaimJoined
import GoSem.ClaimMapViews
import Derived.JoinedTies
import Derived.KernelRfl
namespace Go.Proofs.Ytpdcghclcgbcfaa
/- THE CELL 'sum', in the pinned program and in every row, IS THE sha256 OF THE DUMP (.gsa) THAT YtpdcghclcgbcfaaProg.lean LOADS. Nothing in Lean hashes anything: it is a label: what it is worth is what the hold of that sum in a sandbox is worth. -/
noncomputable def Try.pinned : Pinned := { name := "ytpdcghclcgbcfaa", sum := "a55665530d08268814bf358e9e8146b26965a00bee7a2148c9826d4ec0353599", checked := Try.checked }
namespace Rows
def none {H : Type} : Left H := { results := [], args := [] }

/-- 'laws.FnAgree': WHATEVER THE INPUT: true; the input reads as it did. -/
def fnAgreeSpec : ChangeSpec := { name := "fnAgree", fn := fun _ => fun
  | [d1, d2] => { results := [.lit (.bool true)], args := [d1, d2] }
  | _ => none }
def fnAgreeRow : OpenClaim := { program := "ytpdcghclcgbcfaa", sum := "a55665530d08268814bf358e9e8146b26965a00bee7a2148c9826d4ec0353599", func := "loop.example/aspect/laws.FnAgree", spec := "fnAgree", apart := false }
def FnAgreeSaid : Prop := fnAgreeRow.holds Try.pinned (OpenSpec.ofChange fnAgreeSpec)

/-- ITS FALSE NEIGHBOUR: 'it returns false'. Refute it at one input. -/
def fnAgreeWrong : ChangeSpec := { name := "fnAgree", fn := fun _ => fun
  | [d1, d2] => { results := [.lit (.bool false)], args := [d1, d2] }
  | _ => none }
def FnAgreeWrongFalsely : Prop := fnAgreeRow.holds Try.pinned (OpenSpec.ofChange fnAgreeWrong)

/-- 'laws.FnExactRowOk': WHATEVER THE INPUT: true; the input reads as it did. -/
def fnExactRowOkSpec : ChangeSpec := { name := "fnExactRowOk", fn := fun _ => fun
  | [d] => { results := [.lit (.bool true)], args := [d] }
  | _ => none }
def fnExactRowOkRow : OpenClaim := { program := "ytpdcghclcgbcfaa", sum := "a55665530d08268814bf358e9e8146b26965a00bee7a2148c9826d4ec0353599", func := "loop.example/aspect/laws.FnExactRowOk", spec := "fnExactRowOk", apart := false }
def FnExactRowOkSaid : Prop := fnExactRowOkRow.holds Try.pinned (OpenSpec.ofChange fnExactRowOkSpec)

/-- ITS FALSE NEIGHBOUR: 'it returns false'. Refute it at one input. -/
def fnExactRowOkWrong : ChangeSpec := { name := "fnExactRowOk", fn := fun _ => fun
  | [d] => { results := [.lit (.bool false)], args := [d] }
  | _ => none }
def FnExactRowOkWrongFalsely : Prop := fnExactRowOkRow.holds Try.pinned (OpenSpec.ofChange fnExactRowOkWrong)

/-- 'laws.FnExactBehind': WHATEVER THE INPUT: true; the input reads as it did. -/
def fnExactBehindSpec : ChangeSpec := { name := "fnExactBehind", fn := fun _ => fun
  | [d1, d2] => { results := [.lit (.bool true)], args := [d1, d2] }
  | _ => none }
def fnExactBehindRow : OpenClaim := { program := "ytpdcghclcgbcfaa", sum := "a55665530d08268814bf358e9e8146b26965a00bee7a2148c9826d4ec0353599", func := "loop.example/aspect/laws.FnExactBehind", spec := "fnExactBehind", apart := false }
def FnExactBehindSaid : Prop := fnExactBehindRow.holds Try.pinned (OpenSpec.ofChange fnExactBehindSpec)

/-- ITS FALSE NEIGHBOUR: 'it returns false'. Refute it at one input. -/
def fnExactBehindWrong : ChangeSpec := { name := "fnExactBehind", fn := fun _ => fun
  | [d1, d2] => { results := [.lit (.bool false)], args := [d1, d2] }
  | _ => none }
def FnExactBehindWrongFalsely : Prop := fnExactBehindRow.holds Try.pinned (OpenSpec.ofChange fnExactBehindWrong)

/-- 'laws.FnTight': WHATEVER THE INPUT: true; the input reads as it did. -/
def fnTightSpec : ChangeSpec := { name := "fnTight", fn := fun _ => fun
  | [d1, d2] => { results := [.lit (.bool true)], args := [d1, d2] }
  | _ => none }
def fnTightRow : OpenClaim := { program := "ytpdcghclcgbcfaa", sum := "a55665530d08268814bf358e9e8146b26965a00bee7a2148c9826d4ec0353599", func := "loop.example/aspect/laws.FnTight", spec := "fnTight", apart := false }
def FnTightSaid : Prop := fnTightRow.holds Try.pinned (OpenSpec.ofChange fnTightSpec)

/-- ITS FALSE NEIGHBOUR: 'it returns false'. Refute it at one input. -/
def fnTightWrong : ChangeSpec := { name := "fnTight", fn := fun _ => fun
  | [d1, d2] => { results := [.lit (.bool false)], args := [d1, d2] }
  | _ => none }
def FnTightWrongFalsely : Prop := fnTightRow.holds Try.pinned (OpenSpec.ofChange fnTightWrong)

/-- 'laws.FnExactChain': WHATEVER THE INPUT: true; the input reads as it did. -/
def fnExactChainSpec : ChangeSpec := { name := "fnExactChain", fn := fun _ => fun
  | [d1, d2] => { results := [.lit (.bool true)], args := [d1, d2] }
  | _ => none }
def fnExactChainRow : OpenClaim := { program := "ytpdcghclcgbcfaa", sum := "a55665530d08268814bf358e9e8146b26965a00bee7a2148c9826d4ec0353599", func := "loop.example/aspect/laws.FnExactChain", spec := "fnExactChain", apart := false }
def FnExactChainSaid : Prop := fnExactChainRow.holds Try.pinned (OpenSpec.ofChange fnExactChainSpec)

/-- ITS FALSE NEIGHBOUR: 'it returns false'. Refute it at one input. -/
def fnExactChainWrong : ChangeSpec := { name := "fnExactChain", fn := fun _ => fun
  | [d1, d2] => { results := [.lit (.bool false)], args := [d1, d2] }
  | _ => none }
def FnExactChainWrongFalsely : Prop := fnExactChainRow.holds Try.pinned (OpenSpec.ofChange fnExactChainWrong)

/-- 'laws.FnRoom': WHATEVER THE INPUT: true; the input reads as it did. -/
def fnRoomSpec : ChangeSpec := { name := "fnRoom", fn := fun _ => fun
  | [d] => { results := [.lit (.bool true)], args := [d] }
  | _ => none }
def fnRoomRow : OpenClaim := { program := "ytpdcghclcgbcfaa", sum := "a55665530d08268814bf358e9e8146b26965a00bee7a2148c9826d4ec0353599", func := "loop.example/aspect/laws.FnRoom", spec := "fnRoom", apart := false }
def FnRoomSaid : Prop := fnRoomRow.holds Try.pinned (OpenSpec.ofChange fnRoomSpec)

/-- ITS FALSE NEIGHBOUR: 'it returns false'. Refute it at one input. -/
def fnRoomWrong : ChangeSpec := { name := "fnRoom", fn := fun _ => fun
  | [d] => { results := [.lit (.bool false)], args := [d] }
  | _ => none }
def FnRoomWrongFalsely : Prop := fnRoomRow.holds Try.pinned (OpenSpec.ofChange fnRoomWrong)

/-- 'laws.FnSpeed': WHATEVER THE INPUT: true; the input reads as it did. -/
def fnSpeedSpec : ChangeSpec := { name := "fnSpeed", fn := fun _ => fun
  | [d1, d2] => { results := [.lit (.bool true)], args := [d1, d2] }
  | _ => none }
def fnSpeedRow : OpenClaim := { program := "ytpdcghclcgbcfaa", sum := "a55665530d08268814bf358e9e8146b26965a00bee7a2148c9826d4ec0353599", func := "loop.example/aspect/laws.FnSpeed", spec := "fnSpeed", apart := false }
def FnSpeedSaid : Prop := fnSpeedRow.holds Try.pinned (OpenSpec.ofChange fnSpeedSpec)

/-- ITS FALSE NEIGHBOUR: 'it returns false'. Refute it at one input. -/
def fnSpeedWrong : ChangeSpec := { name := "fnSpeed", fn := fun _ => fun
  | [d1, d2] => { results := [.lit (.bool false)], args := [d1, d2] }
  | _ => none }
def FnSpeedWrongFalsely : Prop := fnSpeedRow.holds Try.pinned (OpenSpec.ofChange fnSpeedWrong)

/-- 'laws.FnExactRoom': WHATEVER THE INPUT: true; the input reads as it did. -/
def fnExactRoomSpec : ChangeSpec := { name := "fnExactRoom", fn := fun _ => fun
  | [d1, d2] => { results := [.lit (.bool true)], args := [d1, d2] }
  | _ => none }
def fnExactRoomRow : OpenClaim := { program := "ytpdcghclcgbcfaa", sum := "a55665530d08268814bf358e9e8146b26965a00bee7a2148c9826d4ec0353599", func := "loop.example/aspect/laws.FnExactRoom", spec := "fnExactRoom", apart := false }
def FnExactRoomSaid : Prop := fnExactRoomRow.holds Try.pinned (OpenSpec.ofChange fnExactRoomSpec)

/-- ITS FALSE NEIGHBOUR: 'it returns false'. Refute it at one input. -/
def fnExactRoomWrong : ChangeSpec := { name := "fnExactRoom", fn := fun _ => fun
  | [d1, d2] => { results := [.lit (.bool false)], args := [d1, d2] }
  | _ => none }
def FnExactRoomWrongFalsely : Prop := fnExactRoomRow.holds Try.pinned (OpenSpec.ofChange fnExactRoomWrong)

/-- 'laws.FnExactStop': WHATEVER THE INPUT: true; the input reads as it did. -/
def fnExactStopSpec : ChangeSpec := { name := "fnExactStop", fn := fun _ => fun
  | [d1, d2] => { results := [.lit (.bool true)], args := [d1, d2] }
  | _ => none }
def fnExactStopRow : OpenClaim := { program := "ytpdcghclcgbcfaa", sum := "a55665530d08268814bf358e9e8146b26965a00bee7a2148c9826d4ec0353599", func := "loop.example/aspect/laws.FnExactStop", spec := "fnExactStop", apart := false }
def FnExactStopSaid : Prop := fnExactStopRow.holds Try.pinned (OpenSpec.ofChange fnExactStopSpec)

/-- ITS FALSE NEIGHBOUR: 'it returns false'. Refute it at one input. -/
def fnExactStopWrong : ChangeSpec := { name := "fnExactStop", fn := fun _ => fun
  | [d1, d2] => { results := [.lit (.bool false)], args := [d1, d2] }
  | _ => none }
def FnExactStopWrongFalsely : Prop := fnExactStopRow.holds Try.pinned (OpenSpec.ofChange fnExactStopWrong)

/-- 'laws.FnExactShows': WHATEVER THE INPUT: true; the input reads as it did. -/
def fnExactShowsSpec : ChangeSpec := { name := "fnExactShows", fn := fun _ => fun
  | [d] => { results := [.lit (.bool true)], args := [d] }
  | _ => none }
def fnExactShowsRow : OpenClaim := { program := "ytpdcghclcgbcfaa", sum := "a55665530d08268814bf358e9e8146b26965a00bee7a2148c9826d4ec0353599", func := "loop.example/aspect/laws.FnExactShows", spec := "fnExactShows", apart := false }
def FnExactShowsSaid : Prop := fnExactShowsRow.holds Try.pinned (OpenSpec.ofChange fnExactShowsSpec)

/-- ITS FALSE NEIGHBOUR: 'it returns false'. Refute it at one input. -/
def fnExactShowsWrong : ChangeSpec := { name := "fnExactShows", fn := fun _ => fun
  | [d] => { results := [.lit (.bool false)], args := [d] }
  | _ => none }
def FnExactShowsWrongFalsely : Prop := fnExactShowsRow.holds Try.pinned (OpenSpec.ofChange fnExactShowsWrong)

/-- 'laws.FnExactWants': WHATEVER THE INPUT: true; the input reads as it did. -/
def fnExactWantsSpec : ChangeSpec := { name := "fnExactWants", fn := fun _ => fun
  | [d] => { results := [.lit (.bool true)], args := [d] }
  | _ => none }
def fnExactWantsRow : OpenClaim := { program := "ytpdcghclcgbcfaa", sum := "a55665530d08268814bf358e9e8146b26965a00bee7a2148c9826d4ec0353599", func := "loop.example/aspect/laws.FnExactWants", spec := "fnExactWants", apart := false }
def FnExactWantsSaid : Prop := fnExactWantsRow.holds Try.pinned (OpenSpec.ofChange fnExactWantsSpec)

/-- ITS FALSE NEIGHBOUR: 'it returns false'. Refute it at one input. -/
def fnExactWantsWrong : ChangeSpec := { name := "fnExactWants", fn := fun _ => fun
  | [d] => { results := [.lit (.bool false)], args := [d] }
  | _ => none }
def FnExactWantsWrongFalsely : Prop := fnExactWantsRow.holds Try.pinned (OpenSpec.ofChange fnExactWantsWrong)

/-- 'laws.FnExactSpeed': WHATEVER THE INPUT: true; the input reads as it did. -/
def fnExactSpeedSpec : ChangeSpec := { name := "fnExactSpeed", fn := fun _ => fun
  | [d1, d2, d3, d4] => { results := [.lit (.bool true)], args := [d1, d2, d3, d4] }
  | _ => none }
def fnExactSpeedRow : OpenClaim := { program := "ytpdcghclcgbcfaa", sum := "a55665530d08268814bf358e9e8146b26965a00bee7a2148c9826d4ec0353599", func := "loop.example/aspect/laws.FnExactSpeed", spec := "fnExactSpeed", apart := false }
def FnExactSpeedSaid : Prop := fnExactSpeedRow.holds Try.pinned (OpenSpec.ofChange fnExactSpeedSpec)

/-- ITS FALSE NEIGHBOUR: 'it returns false'. Refute it at one input. -/
def fnExactSpeedWrong : ChangeSpec := { name := "fnExactSpeed", fn := fun _ => fun
  | [d1, d2, d3, d4] => { results := [.lit (.bool false)], args := [d1, d2, d3, d4] }
  | _ => none }
def FnExactSpeedWrongFalsely : Prop := fnExactSpeedRow.holds Try.pinned (OpenSpec.ofChange fnExactSpeedWrong)

/- THE SECOND FORM. 'bulk': how many values and letters a reading holds, each counted each time it is reached (what is shared counts as often as it is met; a slice's spare places count too). A statement '..UptoSaid' is the law's where the arguments, and the package variables that the reading takes, are together of bulk at most 1048576: NARROWER than '..Said'. Prove '..Said' where nothing that the law and all that it calls make is longer than what came in: it says more and counts as full. Else prove '..UptoSaid'. A law counts once. -/
mutual
def uptoBulk {H : Type} : DataW H → Nat
  | .lit (.string bytes) => bytes.length + 1
  | .lit _ => 1
  | .nil => 1
  | .ptr d => uptoBulk d + 1
  | .slice elems spare => uptoBulkAll elems + uptoBulkAll spare + 1
  | .agg parts => uptoBulkAll parts + 1
  | .iface _ d => uptoBulk d + 1
  | .map entries => uptoBulkEntries entries + 1
  | .held _ => 1
def uptoBulkAll {H : Type} : List (DataW H) → Nat
  | [] => 0
  | d :: r => uptoBulk d + uptoBulkAll r
def uptoBulkEntries {H : Type} : List (Lit × DataW H) → Nat
  | [] => 0
  | x :: r => uptoBulkEntry x + uptoBulkEntries r
def uptoBulkEntry {H : Type} : Lit × DataW H → Nat
  | (.string bytes, d) => bytes.length + uptoBulk d + 1
  | (_, d) => uptoBulk d + 1
 end
def uptoSmall : (H : Type) → List (DataW H) → Bool := fun _ ds => decide (uptoBulkAll ds ≤ 1048576)
def OpenSpec.upto (s : _root_.Go.ChangeSpec) : _root_.Go.OpenSpec := { _root_.Go.OpenSpec.ofChange s with cond := some uptoSmall }

/-- 'laws.FnAgree', WHERE WHAT IT READS IS OF BULK AT MOST 1048576: true; the input reads as it did. -/
def fnAgreeUptoRow : OpenClaim := { program := "ytpdcghclcgbcfaa", sum := "a55665530d08268814bf358e9e8146b26965a00bee7a2148c9826d4ec0353599", func := "loop.example/aspect/laws.FnAgree", spec := "fnAgree", apart := false, narrowed := true }
def FnAgreeUptoSaid : Prop := fnAgreeUptoRow.holds Try.pinned (OpenSpec.upto fnAgreeSpec)

/-- 'laws.FnExactRowOk', WHERE WHAT IT READS IS OF BULK AT MOST 1048576: true; the input reads as it did. -/
def fnExactRowOkUptoRow : OpenClaim := { program := "ytpdcghclcgbcfaa", sum := "a55665530d08268814bf358e9e8146b26965a00bee7a2148c9826d4ec0353599", func := "loop.example/aspect/laws.FnExactRowOk", spec := "fnExactRowOk", apart := false, narrowed := true }
def FnExactRowOkUptoSaid : Prop := fnExactRowOkUptoRow.holds Try.pinned (OpenSpec.upto fnExactRowOkSpec)

/-- 'laws.FnExactBehind', WHERE WHAT IT READS IS OF BULK AT MOST 1048576: true; the input reads as it did. -/
def fnExactBehindUptoRow : OpenClaim := { program := "ytpdcghclcgbcfaa", sum := "a55665530d08268814bf358e9e8146b26965a00bee7a2148c9826d4ec0353599", func := "loop.example/aspect/laws.FnExactBehind", spec := "fnExactBehind", apart := false, narrowed := true }
def FnExactBehindUptoSaid : Prop := fnExactBehindUptoRow.holds Try.pinned (OpenSpec.upto fnExactBehindSpec)

/-- 'laws.FnTight', WHERE WHAT IT READS IS OF BULK AT MOST 1048576: true; the input reads as it did. -/
def fnTightUptoRow : OpenClaim := { program := "ytpdcghclcgbcfaa", sum := "a55665530d08268814bf358e9e8146b26965a00bee7a2148c9826d4ec0353599", func := "loop.example/aspect/laws.FnTight", spec := "fnTight", apart := false, narrowed := true }
def FnTightUptoSaid : Prop := fnTightUptoRow.holds Try.pinned (OpenSpec.upto fnTightSpec)

/-- 'laws.FnExactChain', WHERE WHAT IT READS IS OF BULK AT MOST 1048576: true; the input reads as it did. -/
def fnExactChainUptoRow : OpenClaim := { program := "ytpdcghclcgbcfaa", sum := "a55665530d08268814bf358e9e8146b26965a00bee7a2148c9826d4ec0353599", func := "loop.example/aspect/laws.FnExactChain", spec := "fnExactChain", apart := false, narrowed := true }
def FnExactChainUptoSaid : Prop := fnExactChainUptoRow.holds Try.pinned (OpenSpec.upto fnExactChainSpec)

/-- 'laws.FnRoom', WHERE WHAT IT READS IS OF BULK AT MOST 1048576: true; the input reads as it did. -/
def fnRoomUptoRow : OpenClaim := { program := "ytpdcghclcgbcfaa", sum := "a55665530d08268814bf358e9e8146b26965a00bee7a2148c9826d4ec0353599", func := "loop.example/aspect/laws.FnRoom", spec := "fnRoom", apart := false, narrowed := true }
def FnRoomUptoSaid : Prop := fnRoomUptoRow.holds Try.pinned (OpenSpec.upto fnRoomSpec)

/-- 'laws.FnSpeed', WHERE WHAT IT READS IS OF BULK AT MOST 1048576: true; the input reads as it did. -/
def fnSpeedUptoRow : OpenClaim := { program := "ytpdcghclcgbcfaa", sum := "a55665530d08268814bf358e9e8146b26965a00bee7a2148c9826d4ec0353599", func := "loop.example/aspect/laws.FnSpeed", spec := "fnSpeed", apart := false, narrowed := true }
def FnSpeedUptoSaid : Prop := fnSpeedUptoRow.holds Try.pinned (OpenSpec.upto fnSpeedSpec)

/-- 'laws.FnExactRoom', WHERE WHAT IT READS IS OF BULK AT MOST 1048576: true; the input reads as it did. -/
def fnExactRoomUptoRow : OpenClaim := { program := "ytpdcghclcgbcfaa", sum := "a55665530d08268814bf358e9e8146b26965a00bee7a2148c9826d4ec0353599", func := "loop.example/aspect/laws.FnExactRoom", spec := "fnExactRoom", apart := false, narrowed := true }
def FnExactRoomUptoSaid : Prop := fnExactRoomUptoRow.holds Try.pinned (OpenSpec.upto fnExactRoomSpec)

/-- 'laws.FnExactStop', WHERE WHAT IT READS IS OF BULK AT MOST 1048576: true; the input reads as it did. -/
def fnExactStopUptoRow : OpenClaim := { program := "ytpdcghclcgbcfaa", sum := "a55665530d08268814bf358e9e8146b26965a00bee7a2148c9826d4ec0353599", func := "loop.example/aspect/laws.FnExactStop", spec := "fnExactStop", apart := false, narrowed := true }
def FnExactStopUptoSaid : Prop := fnExactStopUptoRow.holds Try.pinned (OpenSpec.upto fnExactStopSpec)

/-- 'laws.FnExactShows', WHERE WHAT IT READS IS OF BULK AT MOST 1048576: true; the input reads as it did. -/
def fnExactShowsUptoRow : OpenClaim := { program := "ytpdcghclcgbcfaa", sum := "a55665530d08268814bf358e9e8146b26965a00bee7a2148c9826d4ec0353599", func := "loop.example/aspect/laws.FnExactShows", spec := "fnExactShows", apart := false, narrowed := true }
def FnExactShowsUptoSaid : Prop := fnExactShowsUptoRow.holds Try.pinned (OpenSpec.upto fnExactShowsSpec)

/-- 'laws.FnExactWants', WHERE WHAT IT READS IS OF BULK AT MOST 1048576: true; the input reads as it did. -/
def fnExactWantsUptoRow : OpenClaim := { program := "ytpdcghclcgbcfaa", sum := "a55665530d08268814bf358e9e8146b26965a00bee7a2148c9826d4ec0353599", func := "loop.example/aspect/laws.FnExactWants", spec := "fnExactWants", apart := false, narrowed := true }
def FnExactWantsUptoSaid : Prop := fnExactWantsUptoRow.holds Try.pinned (OpenSpec.upto fnExactWantsSpec)

/-- 'laws.FnExactSpeed', WHERE WHAT IT READS IS OF BULK AT MOST 1048576: true; the input reads as it did. -/
def fnExactSpeedUptoRow : OpenClaim := { program := "ytpdcghclcgbcfaa", sum := "a55665530d08268814bf358e9e8146b26965a00bee7a2148c9826d4ec0353599", func := "loop.example/aspect/laws.FnExactSpeed", spec := "fnExactSpeed", apart := false, narrowed := true }
def FnExactSpeedUptoSaid : Prop := fnExactSpeedUptoRow.holds Try.pinned (OpenSpec.upto fnExactSpeedSpec)

end Rows
end Go.Proofs.Ytpdcghclcgbcfaa
