/-
  No cell of these rows narrows 'for every input' (looked for: loops, veiled, ifaces, maps, wideKeys, modest, calm, conditions, laid).
  DERIVED. THE GIVEN ROWS OF THIS SEAT. 13 by the template 'for every input the law returns true; each argument reads behind the call as it read before'; 0 by the template 'total and deterministic' (their statements: YtmhbfgbadiikfaaGreatTotals.lean).
  GIVEN WITH THE SEED: the statements are not yours to turn. If you find one false, say at which input.
  Laid BY PROGRAM, IN A SANDBOX (cutbox-rows.mjs): the forced cells as the released guide's own fill.sh prints them over the translation c587a54b78c099b7… (all of the seat's roots in one cut). By AI agents, Wed Nov 11 2026. No macro, syntax, notation, axiom, sorry.
-/
import Derived.Test.YtmhbfgbadiikfaaGreatChecked
import GoSem.Claim
import GoSem.ClaimJoined
import GoSem.ClaimMapViews
import Derived.JoinedTies
import Derived.KernelRfl
namespace Go.Proofs.YtmhbfgbadiikfaaGreat
/- THE CELL 'sum', in the pinned program and in every row, IS THE sha256 OF THE DUMP (.gsa) THAT YtmhbfgbadiikfaaGreatProg.lean LOADS. Nothing in Lean hashes anything: it is a label: what it is worth is what the hold of that sum in a sandbox is worth. -/
noncomputable def Tryz.pinned : Pinned := { name := "ytmhbfgbadiikfaagreat", sum := "c587a54b78c099b7c4f31e0dc53c741f132fc56c310a0df5ee0dee152bc2805a", checked := Tryz.checked }
namespace Rows
def none {H : Type} : Left H := { results := [], args := [] }

/-- 'laws.FnExactPremiseOf': WHATEVER THE INPUT: true; the input reads as it did. -/
def fnExactPremiseOfSpec : ChangeSpec := { name := "fnExactPremiseOf", fn := fun _ => fun
  | [d] => { results := [.lit (.bool true)], args := [d] }
  | _ => none }
def fnExactPremiseOfRow : OpenClaim := { program := "ytmhbfgbadiikfaagreat", sum := "c587a54b78c099b7c4f31e0dc53c741f132fc56c310a0df5ee0dee152bc2805a", func := "loop.example/g00304/laws.FnExactPremiseOf", spec := "fnExactPremiseOf", unfollowed := true, recurses := true, apart := false }
def FnExactPremiseOfSaid : Prop := fnExactPremiseOfRow.holds Tryz.pinned (OpenSpec.ofChange fnExactPremiseOfSpec)

/-- ITS FALSE NEIGHBOUR: 'it returns false'. Refute it at one input. -/
def fnExactPremiseOfWrong : ChangeSpec := { name := "fnExactPremiseOf", fn := fun _ => fun
  | [d] => { results := [.lit (.bool false)], args := [d] }
  | _ => none }
def FnExactPremiseOfWrongFalsely : Prop := fnExactPremiseOfRow.holds Tryz.pinned (OpenSpec.ofChange fnExactPremiseOfWrong)

/-- 'laws.FnExactNoFork': WHATEVER THE INPUT: true; the input reads as it did. -/
def fnExactNoForkSpec : ChangeSpec := { name := "fnExactNoFork", fn := fun _ => fun
  | [d] => { results := [.lit (.bool true)], args := [d] }
  | _ => none }
def fnExactNoForkRow : OpenClaim := { program := "ytmhbfgbadiikfaagreat", sum := "c587a54b78c099b7c4f31e0dc53c741f132fc56c310a0df5ee0dee152bc2805a", func := "loop.example/g00304/laws.FnExactNoFork", spec := "fnExactNoFork", unfollowed := true, recurses := true, apart := false }
def FnExactNoForkSaid : Prop := fnExactNoForkRow.holds Tryz.pinned (OpenSpec.ofChange fnExactNoForkSpec)

/-- ITS FALSE NEIGHBOUR: 'it returns false'. Refute it at one input. -/
def fnExactNoForkWrong : ChangeSpec := { name := "fnExactNoFork", fn := fun _ => fun
  | [d] => { results := [.lit (.bool false)], args := [d] }
  | _ => none }
def FnExactNoForkWrongFalsely : Prop := fnExactNoForkRow.holds Tryz.pinned (OpenSpec.ofChange fnExactNoForkWrong)

/-- 'laws.FnExactNoDouble': WHATEVER THE INPUT: true; the input reads as it did. -/
def fnExactNoDoubleSpec : ChangeSpec := { name := "fnExactNoDouble", fn := fun _ => fun
  | [d] => { results := [.lit (.bool true)], args := [d] }
  | _ => none }
def fnExactNoDoubleRow : OpenClaim := { program := "ytmhbfgbadiikfaagreat", sum := "c587a54b78c099b7c4f31e0dc53c741f132fc56c310a0df5ee0dee152bc2805a", func := "loop.example/g00304/laws.FnExactNoDouble", spec := "fnExactNoDouble", unfollowed := true, recurses := true, apart := false }
def FnExactNoDoubleSaid : Prop := fnExactNoDoubleRow.holds Tryz.pinned (OpenSpec.ofChange fnExactNoDoubleSpec)

/-- ITS FALSE NEIGHBOUR: 'it returns false'. Refute it at one input. -/
def fnExactNoDoubleWrong : ChangeSpec := { name := "fnExactNoDouble", fn := fun _ => fun
  | [d] => { results := [.lit (.bool false)], args := [d] }
  | _ => none }
def FnExactNoDoubleWrongFalsely : Prop := fnExactNoDoubleRow.holds Tryz.pinned (OpenSpec.ofChange fnExactNoDoubleWrong)

/-- 'laws.FnExactVotedBy': WHATEVER THE INPUT: true; the input reads as it did. -/
def fnExactVotedBySpec : ChangeSpec := { name := "fnExactVotedBy", fn := fun _ => fun
  | [d1, d2] => { results := [.lit (.bool true)], args := [d1, d2] }
  | _ => none }
def fnExactVotedByRow : OpenClaim := { program := "ytmhbfgbadiikfaagreat", sum := "c587a54b78c099b7c4f31e0dc53c741f132fc56c310a0df5ee0dee152bc2805a", func := "loop.example/g00304/laws.FnExactVotedBy", spec := "fnExactVotedBy", unfollowed := true, recurses := true, apart := false }
def FnExactVotedBySaid : Prop := fnExactVotedByRow.holds Tryz.pinned (OpenSpec.ofChange fnExactVotedBySpec)

/-- ITS FALSE NEIGHBOUR: 'it returns false'. Refute it at one input. -/
def fnExactVotedByWrong : ChangeSpec := { name := "fnExactVotedBy", fn := fun _ => fun
  | [d1, d2] => { results := [.lit (.bool false)], args := [d1, d2] }
  | _ => none }
def FnExactVotedByWrongFalsely : Prop := fnExactVotedByRow.holds Tryz.pinned (OpenSpec.ofChange fnExactVotedByWrong)

/-- 'laws.FnExactBestFor': WHATEVER THE INPUT: true; the input reads as it did. -/
def fnExactBestForSpec : ChangeSpec := { name := "fnExactBestFor", fn := fun _ => fun
  | [d1, d2] => { results := [.lit (.bool true)], args := [d1, d2] }
  | _ => none }
def fnExactBestForRow : OpenClaim := { program := "ytmhbfgbadiikfaagreat", sum := "c587a54b78c099b7c4f31e0dc53c741f132fc56c310a0df5ee0dee152bc2805a", func := "loop.example/g00304/laws.FnExactBestFor", spec := "fnExactBestFor", unfollowed := true, recurses := true, apart := false }
def FnExactBestForSaid : Prop := fnExactBestForRow.holds Tryz.pinned (OpenSpec.ofChange fnExactBestForSpec)

/-- ITS FALSE NEIGHBOUR: 'it returns false'. Refute it at one input. -/
def fnExactBestForWrong : ChangeSpec := { name := "fnExactBestFor", fn := fun _ => fun
  | [d1, d2] => { results := [.lit (.bool false)], args := [d1, d2] }
  | _ => none }
def FnExactBestForWrongFalsely : Prop := fnExactBestForRow.holds Tryz.pinned (OpenSpec.ofChange fnExactBestForWrong)

/-- 'laws.FnExactLockedBlocks': WHATEVER THE INPUT: true; the input reads as it did. -/
def fnExactLockedBlocksSpec : ChangeSpec := { name := "fnExactLockedBlocks", fn := fun _ => fun
  | [d] => { results := [.lit (.bool true)], args := [d] }
  | _ => none }
def fnExactLockedBlocksRow : OpenClaim := { program := "ytmhbfgbadiikfaagreat", sum := "c587a54b78c099b7c4f31e0dc53c741f132fc56c310a0df5ee0dee152bc2805a", func := "loop.example/g00304/laws.FnExactLockedBlocks", spec := "fnExactLockedBlocks", unfollowed := true, recurses := true, apart := false }
def FnExactLockedBlocksSaid : Prop := fnExactLockedBlocksRow.holds Tryz.pinned (OpenSpec.ofChange fnExactLockedBlocksSpec)

/-- ITS FALSE NEIGHBOUR: 'it returns false'. Refute it at one input. -/
def fnExactLockedBlocksWrong : ChangeSpec := { name := "fnExactLockedBlocks", fn := fun _ => fun
  | [d] => { results := [.lit (.bool false)], args := [d] }
  | _ => none }
def FnExactLockedBlocksWrongFalsely : Prop := fnExactLockedBlocksRow.holds Tryz.pinned (OpenSpec.ofChange fnExactLockedBlocksWrong)

/-- 'laws.FnExactLockedCoins': WHATEVER THE INPUT: true; the input reads as it did. -/
def fnExactLockedCoinsSpec : ChangeSpec := { name := "fnExactLockedCoins", fn := fun _ => fun
  | [d] => { results := [.lit (.bool true)], args := [d] }
  | _ => none }
def fnExactLockedCoinsRow : OpenClaim := { program := "ytmhbfgbadiikfaagreat", sum := "c587a54b78c099b7c4f31e0dc53c741f132fc56c310a0df5ee0dee152bc2805a", func := "loop.example/g00304/laws.FnExactLockedCoins", spec := "fnExactLockedCoins", unfollowed := true, recurses := true, apart := false }
def FnExactLockedCoinsSaid : Prop := fnExactLockedCoinsRow.holds Tryz.pinned (OpenSpec.ofChange fnExactLockedCoinsSpec)

/-- ITS FALSE NEIGHBOUR: 'it returns false'. Refute it at one input. -/
def fnExactLockedCoinsWrong : ChangeSpec := { name := "fnExactLockedCoins", fn := fun _ => fun
  | [d] => { results := [.lit (.bool false)], args := [d] }
  | _ => none }
def FnExactLockedCoinsWrongFalsely : Prop := fnExactLockedCoinsRow.holds Tryz.pinned (OpenSpec.ofChange fnExactLockedCoinsWrong)

/-- 'laws.FnExactLocksAt': WHATEVER THE INPUT: true; the input reads as it did. -/
def fnExactLocksAtSpec : ChangeSpec := { name := "fnExactLocksAt", fn := fun _ => fun
  | [d1, d2] => { results := [.lit (.bool true)], args := [d1, d2] }
  | _ => none }
def fnExactLocksAtRow : OpenClaim := { program := "ytmhbfgbadiikfaagreat", sum := "c587a54b78c099b7c4f31e0dc53c741f132fc56c310a0df5ee0dee152bc2805a", func := "loop.example/g00304/laws.FnExactLocksAt", spec := "fnExactLocksAt", unfollowed := true, recurses := true, apart := false }
def FnExactLocksAtSaid : Prop := fnExactLocksAtRow.holds Tryz.pinned (OpenSpec.ofChange fnExactLocksAtSpec)

/-- ITS FALSE NEIGHBOUR: 'it returns false'. Refute it at one input. -/
def fnExactLocksAtWrong : ChangeSpec := { name := "fnExactLocksAt", fn := fun _ => fun
  | [d1, d2] => { results := [.lit (.bool false)], args := [d1, d2] }
  | _ => none }
def FnExactLocksAtWrongFalsely : Prop := fnExactLocksAtRow.holds Tryz.pinned (OpenSpec.ofChange fnExactLocksAtWrong)

/-- 'laws.FnExactHearAt': WHATEVER THE INPUT: true; the input reads as it did. -/
def fnExactHearAtSpec : ChangeSpec := { name := "fnExactHearAt", fn := fun _ => fun
  | [d1, d2, d3] => { results := [.lit (.bool true)], args := [d1, d2, d3] }
  | _ => none }
def fnExactHearAtRow : OpenClaim := { program := "ytmhbfgbadiikfaagreat", sum := "c587a54b78c099b7c4f31e0dc53c741f132fc56c310a0df5ee0dee152bc2805a", func := "loop.example/g00304/laws.FnExactHearAt", spec := "fnExactHearAt", unfollowed := true, recurses := true, apart := false }
def FnExactHearAtSaid : Prop := fnExactHearAtRow.holds Tryz.pinned (OpenSpec.ofChange fnExactHearAtSpec)

/-- ITS FALSE NEIGHBOUR: 'it returns false'. Refute it at one input. -/
def fnExactHearAtWrong : ChangeSpec := { name := "fnExactHearAt", fn := fun _ => fun
  | [d1, d2, d3] => { results := [.lit (.bool false)], args := [d1, d2, d3] }
  | _ => none }
def FnExactHearAtWrongFalsely : Prop := fnExactHearAtRow.holds Tryz.pinned (OpenSpec.ofChange fnExactHearAtWrong)

/-- 'laws.FnExactGrowTree': WHATEVER THE INPUT: true; the input reads as it did. -/
def fnExactGrowTreeSpec : ChangeSpec := { name := "fnExactGrowTree", fn := fun _ => fun
  | [d1, d2] => { results := [.lit (.bool true)], args := [d1, d2] }
  | _ => none }
def fnExactGrowTreeRow : OpenClaim := { program := "ytmhbfgbadiikfaagreat", sum := "c587a54b78c099b7c4f31e0dc53c741f132fc56c310a0df5ee0dee152bc2805a", func := "loop.example/g00304/laws.FnExactGrowTree", spec := "fnExactGrowTree", unfollowed := true, recurses := true, apart := false }
def FnExactGrowTreeSaid : Prop := fnExactGrowTreeRow.holds Tryz.pinned (OpenSpec.ofChange fnExactGrowTreeSpec)

/-- ITS FALSE NEIGHBOUR: 'it returns false'. Refute it at one input. -/
def fnExactGrowTreeWrong : ChangeSpec := { name := "fnExactGrowTree", fn := fun _ => fun
  | [d1, d2] => { results := [.lit (.bool false)], args := [d1, d2] }
  | _ => none }
def FnExactGrowTreeWrongFalsely : Prop := fnExactGrowTreeRow.holds Tryz.pinned (OpenSpec.ofChange fnExactGrowTreeWrong)

/-- 'laws.FnExactForgeAt': WHATEVER THE INPUT: true; the input reads as it did. -/
def fnExactForgeAtSpec : ChangeSpec := { name := "fnExactForgeAt", fn := fun _ => fun
  | [d1, d2] => { results := [.lit (.bool true)], args := [d1, d2] }
  | _ => none }
def fnExactForgeAtRow : OpenClaim := { program := "ytmhbfgbadiikfaagreat", sum := "c587a54b78c099b7c4f31e0dc53c741f132fc56c310a0df5ee0dee152bc2805a", func := "loop.example/g00304/laws.FnExactForgeAt", spec := "fnExactForgeAt", unfollowed := true, recurses := true, apart := false }
def FnExactForgeAtSaid : Prop := fnExactForgeAtRow.holds Tryz.pinned (OpenSpec.ofChange fnExactForgeAtSpec)

/-- ITS FALSE NEIGHBOUR: 'it returns false'. Refute it at one input. -/
def fnExactForgeAtWrong : ChangeSpec := { name := "fnExactForgeAt", fn := fun _ => fun
  | [d1, d2] => { results := [.lit (.bool false)], args := [d1, d2] }
  | _ => none }
def FnExactForgeAtWrongFalsely : Prop := fnExactForgeAtRow.holds Tryz.pinned (OpenSpec.ofChange fnExactForgeAtWrong)

/-- 'laws.FnExactCastAt': WHATEVER THE INPUT: true; the input reads as it did. -/
def fnExactCastAtSpec : ChangeSpec := { name := "fnExactCastAt", fn := fun _ => fun
  | [d1, d2, d3] => { results := [.lit (.bool true)], args := [d1, d2, d3] }
  | _ => none }
def fnExactCastAtRow : OpenClaim := { program := "ytmhbfgbadiikfaagreat", sum := "c587a54b78c099b7c4f31e0dc53c741f132fc56c310a0df5ee0dee152bc2805a", func := "loop.example/g00304/laws.FnExactCastAt", spec := "fnExactCastAt", unfollowed := true, recurses := true, apart := false }
def FnExactCastAtSaid : Prop := fnExactCastAtRow.holds Tryz.pinned (OpenSpec.ofChange fnExactCastAtSpec)

/-- ITS FALSE NEIGHBOUR: 'it returns false'. Refute it at one input. -/
def fnExactCastAtWrong : ChangeSpec := { name := "fnExactCastAt", fn := fun _ => fun
  | [d1, d2, d3] => { results := [.lit (.bool false)], args := [d1, d2, d3] }
  | _ => none }
def FnExactCastAtWrongFalsely : Prop := fnExactCastAtRow.holds Tryz.pinned (OpenSpec.ofChange fnExactCastAtWrong)

/-- 'laws.FnExactChooseAt': WHATEVER THE INPUT: true; the input reads as it did. -/
def fnExactChooseAtSpec : ChangeSpec := { name := "fnExactChooseAt", fn := fun _ => fun
  | [d1, d2, d3, d4] => { results := [.lit (.bool true)], args := [d1, d2, d3, d4] }
  | _ => none }
def fnExactChooseAtRow : OpenClaim := { program := "ytmhbfgbadiikfaagreat", sum := "c587a54b78c099b7c4f31e0dc53c741f132fc56c310a0df5ee0dee152bc2805a", func := "loop.example/g00304/laws.FnExactChooseAt", spec := "fnExactChooseAt", unfollowed := true, recurses := true, apart := false }
def FnExactChooseAtSaid : Prop := fnExactChooseAtRow.holds Tryz.pinned (OpenSpec.ofChange fnExactChooseAtSpec)

/-- ITS FALSE NEIGHBOUR: 'it returns false'. Refute it at one input. -/
def fnExactChooseAtWrong : ChangeSpec := { name := "fnExactChooseAt", fn := fun _ => fun
  | [d1, d2, d3, d4] => { results := [.lit (.bool false)], args := [d1, d2, d3, d4] }
  | _ => none }
def FnExactChooseAtWrongFalsely : Prop := fnExactChooseAtRow.holds Tryz.pinned (OpenSpec.ofChange fnExactChooseAtWrong)

/- THE SECOND FORM. 'bulk': how many values and letters a reading holds, each counted each time it is reached (what is shared counts as often as it is met; a slice's spare places count too). A statement '..UptoSaid' is the law's where the arguments, and the package variables that the reading takes, are together of bulk at most 1048576: NARROWER than '..Said'. Prove '..Said' where nothing that the law and all that it calls make is longer than what came in: it says more and counts as full. Else prove '..UptoSaid'. A law counts once. -/
mutual
def uptoBulk {H : Type} : DataW H → Nat
  | .lit (.string bytes) => bytes.length + 1
  | .lit _ => 1
  | .nil => 1
  | .ptr d => uptoBulk d + 1
  | .slice elems spare => uptoBulkAll elems + uptoBulkAll spare + 1
  | .agg parts => uptoBulkAll parts + 1
  | .iface _ d => uptoBulk d + 1
  | .map entries => uptoBulkEntries entries + 1
  | .held _ => 1
def uptoBulkAll {H : Type} : List (DataW H) → Nat
  | [] => 0
  | d :: r => uptoBulk d + uptoBulkAll r
def uptoBulkEntries {H : Type} : List (Lit × DataW H) → Nat
  | [] => 0
  | x :: r => uptoBulkEntry x + uptoBulkEntries r
def uptoBulkEntry {H : Type} : Lit × DataW H → Nat
  | (.string bytes, d) => bytes.length + uptoBulk d + 1
  | (_, d) => uptoBulk d + 1
 end
def uptoSmall : (H : Type) → List (DataW H) → Bool := fun _ ds => decide (uptoBulkAll ds ≤ 1048576)
def OpenSpec.upto (s : _root_.Go.ChangeSpec) : _root_.Go.OpenSpec := { _root_.Go.OpenSpec.ofChange s with cond := some uptoSmall }

/-- 'laws.FnExactPremiseOf', WHERE WHAT IT READS IS OF BULK AT MOST 1048576: true; the input reads as it did. -/
def fnExactPremiseOfUptoRow : OpenClaim := { program := "ytmhbfgbadiikfaagreat", sum := "c587a54b78c099b7c4f31e0dc53c741f132fc56c310a0df5ee0dee152bc2805a", func := "loop.example/g00304/laws.FnExactPremiseOf", spec := "fnExactPremiseOf", unfollowed := true, recurses := true, apart := false, narrowed := true }
def FnExactPremiseOfUptoSaid : Prop := fnExactPremiseOfUptoRow.holds Tryz.pinned (OpenSpec.upto fnExactPremiseOfSpec)

/-- 'laws.FnExactNoFork', WHERE WHAT IT READS IS OF BULK AT MOST 1048576: true; the input reads as it did. -/
def fnExactNoForkUptoRow : OpenClaim := { program := "ytmhbfgbadiikfaagreat", sum := "c587a54b78c099b7c4f31e0dc53c741f132fc56c310a0df5ee0dee152bc2805a", func := "loop.example/g00304/laws.FnExactNoFork", spec := "fnExactNoFork", unfollowed := true, recurses := true, apart := false, narrowed := true }
def FnExactNoForkUptoSaid : Prop := fnExactNoForkUptoRow.holds Tryz.pinned (OpenSpec.upto fnExactNoForkSpec)

/-- 'laws.FnExactNoDouble', WHERE WHAT IT READS IS OF BULK AT MOST 1048576: true; the input reads as it did. -/
def fnExactNoDoubleUptoRow : OpenClaim := { program := "ytmhbfgbadiikfaagreat", sum := "c587a54b78c099b7c4f31e0dc53c741f132fc56c310a0df5ee0dee152bc2805a", func := "loop.example/g00304/laws.FnExactNoDouble", spec := "fnExactNoDouble", unfollowed := true, recurses := true, apart := false, narrowed := true }
def FnExactNoDoubleUptoSaid : Prop := fnExactNoDoubleUptoRow.holds Tryz.pinned (OpenSpec.upto fnExactNoDoubleSpec)

/-- 'laws.FnExactVotedBy', WHERE WHAT IT READS IS OF BULK AT MOST 1048576: true; the input reads as it did. -/
def fnExactVotedByUptoRow : OpenClaim := { program := "ytmhbfgbadiikfaagreat", sum := "c587a54b78c099b7c4f31e0dc53c741f132fc56c310a0df5ee0dee152bc2805a", func := "loop.example/g00304/laws.FnExactVotedBy", spec := "fnExactVotedBy", unfollowed := true, recurses := true, apart := false, narrowed := true }
def FnExactVotedByUptoSaid : Prop := fnExactVotedByUptoRow.holds Tryz.pinned (OpenSpec.upto fnExactVotedBySpec)

/-- 'laws.FnExactBestFor', WHERE WHAT IT READS IS OF BULK AT MOST 1048576: true; the input reads as it did. -/
def fnExactBestForUptoRow : OpenClaim := { program := "ytmhbfgbadiikfaagreat", sum := "c587a54b78c099b7c4f31e0dc53c741f132fc56c310a0df5ee0dee152bc2805a", func := "loop.example/g00304/laws.FnExactBestFor", spec := "fnExactBestFor", unfollowed := true, recurses := true, apart := false, narrowed := true }
def FnExactBestForUptoSaid : Prop := fnExactBestForUptoRow.holds Tryz.pinned (OpenSpec.upto fnExactBestForSpec)

/-- 'laws.FnExactLockedBlocks', WHERE WHAT IT READS IS OF BULK AT MOST 1048576: true; the input reads as it did. -/
def fnExactLockedBlocksUptoRow : OpenClaim := { program := "ytmhbfgbadiikfaagreat", sum := "c587a54b78c099b7c4f31e0dc53c741f132fc56c310a0df5ee0dee152bc2805a", func := "loop.example/g00304/laws.FnExactLockedBlocks", spec := "fnExactLockedBlocks", unfollowed := true, recurses := true, apart := false, narrowed := true }
def FnExactLockedBlocksUptoSaid : Prop := fnExactLockedBlocksUptoRow.holds Tryz.pinned (OpenSpec.upto fnExactLockedBlocksSpec)

/-- 'laws.FnExactLockedCoins', WHERE WHAT IT READS IS OF BULK AT MOST 1048576: true; the input reads as it did. -/
def fnExactLockedCoinsUptoRow : OpenClaim := { program := "ytmhbfgbadiikfaagreat", sum := "c587a54b78c099b7c4f31e0dc53c741f132fc56c310a0df5ee0dee152bc2805a", func := "loop.example/g00304/laws.FnExactLockedCoins", spec := "fnExactLockedCoins", unfollowed := true, recurses := true, apart := false, narrowed := true }
def FnExactLockedCoinsUptoSaid : Prop := fnExactLockedCoinsUptoRow.holds Tryz.pinned (OpenSpec.upto fnExactLockedCoinsSpec)

/-- 'laws.FnExactLocksAt', WHERE WHAT IT READS IS OF BULK AT MOST 1048576: true; the input reads as it did. -/
def fnExactLocksAtUptoRow : OpenClaim := { program := "ytmhbfgbadiikfaagreat", sum := "c587a54b78c099b7c4f31e0dc53c741f132fc56c310a0df5ee0dee152bc2805a", func := "loop.example/g00304/laws.FnExactLocksAt", spec := "fnExactLocksAt", unfollowed := true, recurses := true, apart := false, narrowed := true }
def FnExactLocksAtUptoSaid : Prop := fnExactLocksAtUptoRow.holds Tryz.pinned (OpenSpec.upto fnExactLocksAtSpec)

/-- 'laws.FnExactHearAt', WHERE WHAT IT READS IS OF BULK AT MOST 1048576: true; the input reads as it did. -/
def fnExactHearAtUptoRow : OpenClaim := { program := "ytmhbfgbadiikfaagreat", sum := "c587a54b78c099b7c4f31e0dc53c741f132fc56c310a0df5ee0dee152bc2805a", func := "loop.example/g00304/laws.FnExactHearAt", spec := "fnExactHearAt", unfollowed := true, recurses := true, apart := false, narrowed := true }
def FnExactHearAtUptoSaid : Prop := fnExactHearAtUptoRow.holds Tryz.pinned (OpenSpec.upto fnExactHearAtSpec)

/-- 'laws.FnExactGrowTree', WHERE WHAT IT READS IS OF BULK AT MOST 1048576: true; the input reads as it did. -/
def fnExactGrowTreeUptoRow : OpenClaim := { program := "ytmhbfgbadiikfaagreat", sum := "c587a54b78c099b7c4f31e0dc53c741f132fc56c310a0df5ee0dee152bc2805a", func := "loop.example/g00304/laws.FnExactGrowTree", spec := "fnExactGrowTree", unfollowed := true, recurses := true, apart := false, narrowed := true }
def FnExactGrowTreeUptoSaid : Prop := fnExactGrowTreeUptoRow.holds Tryz.pinned (OpenSpec.upto fnExactGrowTreeSpec)

/-- 'laws.FnExactForgeAt', WHERE WHAT IT READS IS OF BULK AT MOST 1048576: true; the input reads as it did. -/
def fnExactForgeAtUptoRow : OpenClaim := { program := "ytmhbfgbadiikfaagreat", sum := "c587a54b78c099b7c4f31e0dc53c741f132fc56c310a0df5ee0dee152bc2805a", func := "loop.example/g00304/laws.FnExactForgeAt", spec := "fnExactForgeAt", unfollowed := true, recurses := true, apart := false, narrowed := true }
def FnExactForgeAtUptoSaid : Prop := fnExactForgeAtUptoRow.holds Tryz.pinned (OpenSpec.upto fnExactForgeAtSpec)

/-- 'laws.FnExactCastAt', WHERE WHAT IT READS IS OF BULK AT MOST 1048576: true; the input reads as it did. -/
def fnExactCastAtUptoRow : OpenClaim := { program := "ytmhbfgbadiikfaagreat", sum := "c587a54b78c099b7c4f31e0dc53c741f132fc56c310a0df5ee0dee152bc2805a", func := "loop.example/g00304/laws.FnExactCastAt", spec := "fnExactCastAt", unfollowed := true, recurses := true, apart := false, narrowed := true }
def FnExactCastAtUptoSaid : Prop := fnExactCastAtUptoRow.holds Tryz.pinned (OpenSpec.upto fnExactCastAtSpec)

/-- 'laws.FnExactChooseAt', WHERE WHAT IT READS IS OF BULK AT MOST 1048576: true; the input reads as it did. -/
def fnExactChooseAtUptoRow : OpenClaim := { program := "ytmhbfgbadiikfaagreat", sum := "c587a54b78c099b7c4f31e0dc53c741f132fc56c310a0df5ee0dee152bc2805a", func := "loop.example/g00304/laws.FnExactChooseAt", spec := "fnExactChooseAt", unfollowed := true, recurses := true, apart := false, narrowed := true }
def FnExactChooseAtUptoSaid : Prop := fnExactChooseAtUptoRow.holds Tryz.pinned (OpenSpec.upto fnExactChooseAtSpec)

end Rows
end Go.Proofs.YtmhbfgbadiikfaaGreat
