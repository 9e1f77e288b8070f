/-
  No cell of these rows narrows 'for every input' (looked for: loops, veiled, ifaces, maps, wideKeys, modest, calm, conditions, laid).
  DERIVED. THE GIVEN ROWS OF THIS SEAT. 6 by the template 'for every input the law returns true; each argument reads behind the call as it read before'; 0 by the template 'total and deterministic' (their statements: YtchhjadkiimhgaaGreatTotals.lean).
  GIVEN WITH THE SEED: the statements are not yours to turn. If you find one false, say at which input.
  Laid BY PROGRAM, IN A SANDBOX (cutbox-rows.mjs): the forced cells as the released guide's own fill.sh prints them over the translation 3135eb5fc7d7ebd2… (all of the seat's roots in one cut). By AI agents, Wed Nov 11 2026. No macro, syntax, notation, axiom, sorry.
-/
import Derived.Test.YtchhjadkiimhgaaGreatChecked
import GoSem.Claim
import GoSem.ClaimJoined
import GoSem.ClaimMapViews
import Derived.JoinedTies
import Derived.KernelRfl
namespace Go.Proofs.YtchhjadkiimhgaaGreat
/- THE CELL 'sum', in the pinned program and in every row, IS THE sha256 OF THE DUMP (.gsa) THAT YtchhjadkiimhgaaGreatProg.lean LOADS. Nothing in Lean hashes anything: it is a label: what it is worth is what the hold of that sum in a sandbox is worth. -/
noncomputable def Tryz.pinned : Pinned := { name := "ytchhjadkiimhgaagreat", sum := "3135eb5fc7d7ebd2816ff97413ad152cbe1ca2f413737b448a67cf3071cc9646", checked := Tryz.checked }
namespace Rows
def none {H : Type} : Left H := { results := [], args := [] }

/-- 'laws.FnForges': WHATEVER THE INPUT: true; the input reads as it did. -/
def fnForgesSpec : ChangeSpec := { name := "fnForges", fn := fun _ => fun
  | [d] => { results := [.lit (.bool true)], args := [d] }
  | _ => none }
def fnForgesRow : OpenClaim := { program := "ytchhjadkiimhgaagreat", sum := "3135eb5fc7d7ebd2816ff97413ad152cbe1ca2f413737b448a67cf3071cc9646", func := "loop.example/g00304/laws.FnForges", spec := "fnForges", unfollowed := true, recurses := true, apart := false }
def FnForgesSaid : Prop := fnForgesRow.holds Tryz.pinned (OpenSpec.ofChange fnForgesSpec)

/-- ITS FALSE NEIGHBOUR: 'it returns false'. Refute it at one input. -/
def fnForgesWrong : ChangeSpec := { name := "fnForges", fn := fun _ => fun
  | [d] => { results := [.lit (.bool false)], args := [d] }
  | _ => none }
def FnForgesWrongFalsely : Prop := fnForgesRow.holds Tryz.pinned (OpenSpec.ofChange fnForgesWrong)

/-- 'laws.FnVoters': WHATEVER THE INPUT: true; the input reads as it did. -/
def fnVotersSpec : ChangeSpec := { name := "fnVoters", fn := fun _ => fun
  | [d] => { results := [.lit (.bool true)], args := [d] }
  | _ => none }
def fnVotersRow : OpenClaim := { program := "ytchhjadkiimhgaagreat", sum := "3135eb5fc7d7ebd2816ff97413ad152cbe1ca2f413737b448a67cf3071cc9646", func := "loop.example/g00304/laws.FnVoters", spec := "fnVoters", unfollowed := true, recurses := true, apart := false }
def FnVotersSaid : Prop := fnVotersRow.holds Tryz.pinned (OpenSpec.ofChange fnVotersSpec)

/-- ITS FALSE NEIGHBOUR: 'it returns false'. Refute it at one input. -/
def fnVotersWrong : ChangeSpec := { name := "fnVoters", fn := fun _ => fun
  | [d] => { results := [.lit (.bool false)], args := [d] }
  | _ => none }
def FnVotersWrongFalsely : Prop := fnVotersRow.holds Tryz.pinned (OpenSpec.ofChange fnVotersWrong)

/-- 'laws.FnClusters': WHATEVER THE INPUT: true; the input reads as it did. -/
def fnClustersSpec : ChangeSpec := { name := "fnClusters", fn := fun _ => fun
  | [d] => { results := [.lit (.bool true)], args := [d] }
  | _ => none }
def fnClustersRow : OpenClaim := { program := "ytchhjadkiimhgaagreat", sum := "3135eb5fc7d7ebd2816ff97413ad152cbe1ca2f413737b448a67cf3071cc9646", func := "loop.example/g00304/laws.FnClusters", spec := "fnClusters", unfollowed := true, recurses := true, apart := false }
def FnClustersSaid : Prop := fnClustersRow.holds Tryz.pinned (OpenSpec.ofChange fnClustersSpec)

/-- ITS FALSE NEIGHBOUR: 'it returns false'. Refute it at one input. -/
def fnClustersWrong : ChangeSpec := { name := "fnClusters", fn := fun _ => fun
  | [d] => { results := [.lit (.bool false)], args := [d] }
  | _ => none }
def FnClustersWrongFalsely : Prop := fnClustersRow.holds Tryz.pinned (OpenSpec.ofChange fnClustersWrong)

/-- 'laws.FnSafeRaw': WHATEVER THE INPUT: true; the input reads as it did. -/
def fnSafeRawSpec : ChangeSpec := { name := "fnSafeRaw", fn := fun _ => fun
  | [d] => { results := [.lit (.bool true)], args := [d] }
  | _ => none }
def fnSafeRawRow : OpenClaim := { program := "ytchhjadkiimhgaagreat", sum := "3135eb5fc7d7ebd2816ff97413ad152cbe1ca2f413737b448a67cf3071cc9646", func := "loop.example/g00304/laws.FnSafeRaw", spec := "fnSafeRaw", unfollowed := true, recurses := true, apart := false }
def FnSafeRawSaid : Prop := fnSafeRawRow.holds Tryz.pinned (OpenSpec.ofChange fnSafeRawSpec)

/-- ITS FALSE NEIGHBOUR: 'it returns false'. Refute it at one input. -/
def fnSafeRawWrong : ChangeSpec := { name := "fnSafeRaw", fn := fun _ => fun
  | [d] => { results := [.lit (.bool false)], args := [d] }
  | _ => none }
def FnSafeRawWrongFalsely : Prop := fnSafeRawRow.holds Tryz.pinned (OpenSpec.ofChange fnSafeRawWrong)

/-- 'laws.FnForks': WHATEVER THE INPUT: true; the input reads as it did. -/
def fnForksSpec : ChangeSpec := { name := "fnForks", fn := fun _ => fun
  | [d] => { results := [.lit (.bool true)], args := [d] }
  | _ => none }
def fnForksRow : OpenClaim := { program := "ytchhjadkiimhgaagreat", sum := "3135eb5fc7d7ebd2816ff97413ad152cbe1ca2f413737b448a67cf3071cc9646", func := "loop.example/g00304/laws.FnForks", spec := "fnForks", unfollowed := true, recurses := true, apart := false }
def FnForksSaid : Prop := fnForksRow.holds Tryz.pinned (OpenSpec.ofChange fnForksSpec)

/-- ITS FALSE NEIGHBOUR: 'it returns false'. Refute it at one input. -/
def fnForksWrong : ChangeSpec := { name := "fnForks", fn := fun _ => fun
  | [d] => { results := [.lit (.bool false)], args := [d] }
  | _ => none }
def FnForksWrongFalsely : Prop := fnForksRow.holds Tryz.pinned (OpenSpec.ofChange fnForksWrong)

/-- 'laws.FnHearers': WHATEVER THE INPUT: true; the input reads as it did. -/
def fnHearersSpec : ChangeSpec := { name := "fnHearers", fn := fun _ => fun
  | [d] => { results := [.lit (.bool true)], args := [d] }
  | _ => none }
def fnHearersRow : OpenClaim := { program := "ytchhjadkiimhgaagreat", sum := "3135eb5fc7d7ebd2816ff97413ad152cbe1ca2f413737b448a67cf3071cc9646", func := "loop.example/g00304/laws.FnHearers", spec := "fnHearers", unfollowed := true, recurses := true, apart := false }
def FnHearersSaid : Prop := fnHearersRow.holds Tryz.pinned (OpenSpec.ofChange fnHearersSpec)

/-- ITS FALSE NEIGHBOUR: 'it returns false'. Refute it at one input. -/
def fnHearersWrong : ChangeSpec := { name := "fnHearers", fn := fun _ => fun
  | [d] => { results := [.lit (.bool false)], args := [d] }
  | _ => none }
def FnHearersWrongFalsely : Prop := fnHearersRow.holds Tryz.pinned (OpenSpec.ofChange fnHearersWrong)

/- THE SECOND FORM. 'bulk': how many values and letters a reading holds, each counted each time it is reached (what is shared counts as often as it is met; a slice's spare places count too). A statement '..UptoSaid' is the law's where the arguments, and the package variables that the reading takes, are together of bulk at most 1048576: NARROWER than '..Said'. Prove '..Said' where nothing that the law and all that it calls make is longer than what came in: it says more and counts as full. Else prove '..UptoSaid'. A law counts once. -/
mutual
def uptoBulk {H : Type} : DataW H → Nat
  | .lit (.string bytes) => bytes.length + 1
  | .lit _ => 1
  | .nil => 1
  | .ptr d => uptoBulk d + 1
  | .slice elems spare => uptoBulkAll elems + uptoBulkAll spare + 1
  | .agg parts => uptoBulkAll parts + 1
  | .iface _ d => uptoBulk d + 1
  | .map entries => uptoBulkEntries entries + 1
  | .held _ => 1
def uptoBulkAll {H : Type} : List (DataW H) → Nat
  | [] => 0
  | d :: r => uptoBulk d + uptoBulkAll r
def uptoBulkEntries {H : Type} : List (Lit × DataW H) → Nat
  | [] => 0
  | x :: r => uptoBulkEntry x + uptoBulkEntries r
def uptoBulkEntry {H : Type} : Lit × DataW H → Nat
  | (.string bytes, d) => bytes.length + uptoBulk d + 1
  | (_, d) => uptoBulk d + 1
 end
def uptoSmall : (H : Type) → List (DataW H) → Bool := fun _ ds => decide (uptoBulkAll ds ≤ 1048576)
def OpenSpec.upto (s : _root_.Go.ChangeSpec) : _root_.Go.OpenSpec := { _root_.Go.OpenSpec.ofChange s with cond := some uptoSmall }

/-- 'laws.FnForges', WHERE WHAT IT READS IS OF BULK AT MOST 1048576: true; the input reads as it did. -/
def fnForgesUptoRow : OpenClaim := { program := "ytchhjadkiimhgaagreat", sum := "3135eb5fc7d7ebd2816ff97413ad152cbe1ca2f413737b448a67cf3071cc9646", func := "loop.example/g00304/laws.FnForges", spec := "fnForges", unfollowed := true, recurses := true, apart := false, narrowed := true }
def FnForgesUptoSaid : Prop := fnForgesUptoRow.holds Tryz.pinned (OpenSpec.upto fnForgesSpec)

/-- 'laws.FnVoters', WHERE WHAT IT READS IS OF BULK AT MOST 1048576: true; the input reads as it did. -/
def fnVotersUptoRow : OpenClaim := { program := "ytchhjadkiimhgaagreat", sum := "3135eb5fc7d7ebd2816ff97413ad152cbe1ca2f413737b448a67cf3071cc9646", func := "loop.example/g00304/laws.FnVoters", spec := "fnVoters", unfollowed := true, recurses := true, apart := false, narrowed := true }
def FnVotersUptoSaid : Prop := fnVotersUptoRow.holds Tryz.pinned (OpenSpec.upto fnVotersSpec)

/-- 'laws.FnClusters', WHERE WHAT IT READS IS OF BULK AT MOST 1048576: true; the input reads as it did. -/
def fnClustersUptoRow : OpenClaim := { program := "ytchhjadkiimhgaagreat", sum := "3135eb5fc7d7ebd2816ff97413ad152cbe1ca2f413737b448a67cf3071cc9646", func := "loop.example/g00304/laws.FnClusters", spec := "fnClusters", unfollowed := true, recurses := true, apart := false, narrowed := true }
def FnClustersUptoSaid : Prop := fnClustersUptoRow.holds Tryz.pinned (OpenSpec.upto fnClustersSpec)

/-- 'laws.FnSafeRaw', WHERE WHAT IT READS IS OF BULK AT MOST 1048576: true; the input reads as it did. -/
def fnSafeRawUptoRow : OpenClaim := { program := "ytchhjadkiimhgaagreat", sum := "3135eb5fc7d7ebd2816ff97413ad152cbe1ca2f413737b448a67cf3071cc9646", func := "loop.example/g00304/laws.FnSafeRaw", spec := "fnSafeRaw", unfollowed := true, recurses := true, apart := false, narrowed := true }
def FnSafeRawUptoSaid : Prop := fnSafeRawUptoRow.holds Tryz.pinned (OpenSpec.upto fnSafeRawSpec)

/-- 'laws.FnForks', WHERE WHAT IT READS IS OF BULK AT MOST 1048576: true; the input reads as it did. -/
def fnForksUptoRow : OpenClaim := { program := "ytchhjadkiimhgaagreat", sum := "3135eb5fc7d7ebd2816ff97413ad152cbe1ca2f413737b448a67cf3071cc9646", func := "loop.example/g00304/laws.FnForks", spec := "fnForks", unfollowed := true, recurses := true, apart := false, narrowed := true }
def FnForksUptoSaid : Prop := fnForksUptoRow.holds Tryz.pinned (OpenSpec.upto fnForksSpec)

/-- 'laws.FnHearers', WHERE WHAT IT READS IS OF BULK AT MOST 1048576: true; the input reads as it did. -/
def fnHearersUptoRow : OpenClaim := { program := "ytchhjadkiimhgaagreat", sum := "3135eb5fc7d7ebd2816ff97413ad152cbe1ca2f413737b448a67cf3071cc9646", func := "loop.example/g00304/laws.FnHearers", spec := "fnHearers", unfollowed := true, recurses := true, apart := false, narrowed := true }
def FnHearersUptoSaid : Prop := fnHearersUptoRow.holds Tryz.pinned (OpenSpec.upto fnHearersSpec)

end Rows
end Go.Proofs.YtchhjadkiimhgaaGreat
