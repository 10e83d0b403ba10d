/-
  No cell of these rows narrows 'for every input' (looked for: loops, veiled, ifaces, maps, wideKeys, modest, calm, conditions, laid).
  DERIVED. THE GIVEN ROWS OF THIS SEAT. 12 by the template 'for every input the law returns true; each argument reads behind the call as it read before'; 0 by the template 'total and deterministic' (their statements: YtlepfdmolankeaaTotals.lean).
  GIVEN WITH THE SEED: the statements are not yours to turn. If you find one false, say at which input.
  Laid BY PROGRAM, IN A SANDBOX (cutbox-rows.mjs): the forced cells as the released guide's own fill.sh prints them over the translation 8e964876b6c685a5… (all of the seat's roots in one cut). By AI agents, Wed Nov 11 2026. No macro, syntax, notation, axiom, sorry.
-/
import Derived.Test.YtlepfdmolankeaaChecked
import GoSem.Claim
import GoSem.ClaimJoined
import GoSem.ClaimMapViews
import Derived.JoinedTies
import Derived.KernelRfl
namespace Go.Proofs.Ytlepfdmolankeaa
/- THE CELL 'sum', in the pinned program and in every row, IS THE sha256 OF THE DUMP (.gsa) THAT YtlepfdmolankeaaProg.lean LOADS. Nothing in Lean hashes anything: it is a label: what it is worth is what the hold of that sum in a sandbox is worth. -/
noncomputable def Try.pinned : Pinned := { name := "ytlepfdmolankeaa", sum := "8e964876b6c685a5660fcf9572cace488d0db2a2ae7361fdd07b0d83d96dc13d", checked := Try.checked }
namespace Rows
def none {H : Type} : Left H := { results := [], args := [] }

/-- 'laws.FnWorldProposed': WHATEVER THE INPUT: true; the input reads as it did. -/
def fnWorldProposedSpec : ChangeSpec := { name := "fnWorldProposed", fn := fun _ => fun
  | [d] => { results := [.lit (.bool true)], args := [d] }
  | _ => none }
def fnWorldProposedRow : OpenClaim := { program := "ytlepfdmolankeaa", sum := "8e964876b6c685a5660fcf9572cace488d0db2a2ae7361fdd07b0d83d96dc13d", func := "loop.example/witan/laws.FnWorldProposed", spec := "fnWorldProposed", unfollowed := true, recurses := true, apart := false }
def FnWorldProposedSaid : Prop := fnWorldProposedRow.holds Try.pinned (OpenSpec.ofChange fnWorldProposedSpec)

/-- ITS FALSE NEIGHBOUR: 'it returns false'. Refute it at one input. -/
def fnWorldProposedWrong : ChangeSpec := { name := "fnWorldProposed", fn := fun _ => fun
  | [d] => { results := [.lit (.bool false)], args := [d] }
  | _ => none }
def FnWorldProposedWrongFalsely : Prop := fnWorldProposedRow.holds Try.pinned (OpenSpec.ofChange fnWorldProposedWrong)

/-- 'laws.FnWorldSeen': WHATEVER THE INPUT: true; the input reads as it did. -/
def fnWorldSeenSpec : ChangeSpec := { name := "fnWorldSeen", fn := fun _ => fun
  | [d] => { results := [.lit (.bool true)], args := [d] }
  | _ => none }
def fnWorldSeenRow : OpenClaim := { program := "ytlepfdmolankeaa", sum := "8e964876b6c685a5660fcf9572cace488d0db2a2ae7361fdd07b0d83d96dc13d", func := "loop.example/witan/laws.FnWorldSeen", spec := "fnWorldSeen", unfollowed := true, recurses := true, apart := false }
def FnWorldSeenSaid : Prop := fnWorldSeenRow.holds Try.pinned (OpenSpec.ofChange fnWorldSeenSpec)

/-- ITS FALSE NEIGHBOUR: 'it returns false'. Refute it at one input. -/
def fnWorldSeenWrong : ChangeSpec := { name := "fnWorldSeen", fn := fun _ => fun
  | [d] => { results := [.lit (.bool false)], args := [d] }
  | _ => none }
def FnWorldSeenWrongFalsely : Prop := fnWorldSeenRow.holds Try.pinned (OpenSpec.ofChange fnWorldSeenWrong)

/-- 'laws.FnWorldBehind': WHATEVER THE INPUT: true; the input reads as it did. -/
def fnWorldBehindSpec : ChangeSpec := { name := "fnWorldBehind", fn := fun _ => fun
  | [d] => { results := [.lit (.bool true)], args := [d] }
  | _ => none }
def fnWorldBehindRow : OpenClaim := { program := "ytlepfdmolankeaa", sum := "8e964876b6c685a5660fcf9572cace488d0db2a2ae7361fdd07b0d83d96dc13d", func := "loop.example/witan/laws.FnWorldBehind", spec := "fnWorldBehind", unfollowed := true, recurses := true, apart := false }
def FnWorldBehindSaid : Prop := fnWorldBehindRow.holds Try.pinned (OpenSpec.ofChange fnWorldBehindSpec)

/-- ITS FALSE NEIGHBOUR: 'it returns false'. Refute it at one input. -/
def fnWorldBehindWrong : ChangeSpec := { name := "fnWorldBehind", fn := fun _ => fun
  | [d] => { results := [.lit (.bool false)], args := [d] }
  | _ => none }
def FnWorldBehindWrongFalsely : Prop := fnWorldBehindRow.holds Try.pinned (OpenSpec.ofChange fnWorldBehindWrong)

/-- 'laws.FnWorldAlone': WHATEVER THE INPUT: true; the input reads as it did. -/
def fnWorldAloneSpec : ChangeSpec := { name := "fnWorldAlone", fn := fun _ => fun
  | [d] => { results := [.lit (.bool true)], args := [d] }
  | _ => none }
def fnWorldAloneRow : OpenClaim := { program := "ytlepfdmolankeaa", sum := "8e964876b6c685a5660fcf9572cace488d0db2a2ae7361fdd07b0d83d96dc13d", func := "loop.example/witan/laws.FnWorldAlone", spec := "fnWorldAlone", unfollowed := true, recurses := true, apart := false }
def FnWorldAloneSaid : Prop := fnWorldAloneRow.holds Try.pinned (OpenSpec.ofChange fnWorldAloneSpec)

/-- ITS FALSE NEIGHBOUR: 'it returns false'. Refute it at one input. -/
def fnWorldAloneWrong : ChangeSpec := { name := "fnWorldAlone", fn := fun _ => fun
  | [d] => { results := [.lit (.bool false)], args := [d] }
  | _ => none }
def FnWorldAloneWrongFalsely : Prop := fnWorldAloneRow.holds Try.pinned (OpenSpec.ofChange fnWorldAloneWrong)

/-- 'laws.FnWorldEpochs': WHATEVER THE INPUT: true; the input reads as it did. -/
def fnWorldEpochsSpec : ChangeSpec := { name := "fnWorldEpochs", fn := fun _ => fun
  | [d] => { results := [.lit (.bool true)], args := [d] }
  | _ => none }
def fnWorldEpochsRow : OpenClaim := { program := "ytlepfdmolankeaa", sum := "8e964876b6c685a5660fcf9572cace488d0db2a2ae7361fdd07b0d83d96dc13d", func := "loop.example/witan/laws.FnWorldEpochs", spec := "fnWorldEpochs", unfollowed := true, recurses := true, apart := false }
def FnWorldEpochsSaid : Prop := fnWorldEpochsRow.holds Try.pinned (OpenSpec.ofChange fnWorldEpochsSpec)

/-- ITS FALSE NEIGHBOUR: 'it returns false'. Refute it at one input. -/
def fnWorldEpochsWrong : ChangeSpec := { name := "fnWorldEpochs", fn := fun _ => fun
  | [d] => { results := [.lit (.bool false)], args := [d] }
  | _ => none }
def FnWorldEpochsWrongFalsely : Prop := fnWorldEpochsRow.holds Try.pinned (OpenSpec.ofChange fnWorldEpochsWrong)

/-- 'laws.FnWorldNodes': WHATEVER THE INPUT: true; the input reads as it did. -/
def fnWorldNodesSpec : ChangeSpec := { name := "fnWorldNodes", fn := fun _ => fun
  | [d] => { results := [.lit (.bool true)], args := [d] }
  | _ => none }
def fnWorldNodesRow : OpenClaim := { program := "ytlepfdmolankeaa", sum := "8e964876b6c685a5660fcf9572cace488d0db2a2ae7361fdd07b0d83d96dc13d", func := "loop.example/witan/laws.FnWorldNodes", spec := "fnWorldNodes", unfollowed := true, recurses := true, apart := false }
def FnWorldNodesSaid : Prop := fnWorldNodesRow.holds Try.pinned (OpenSpec.ofChange fnWorldNodesSpec)

/-- ITS FALSE NEIGHBOUR: 'it returns false'. Refute it at one input. -/
def fnWorldNodesWrong : ChangeSpec := { name := "fnWorldNodes", fn := fun _ => fun
  | [d] => { results := [.lit (.bool false)], args := [d] }
  | _ => none }
def FnWorldNodesWrongFalsely : Prop := fnWorldNodesRow.holds Try.pinned (OpenSpec.ofChange fnWorldNodesWrong)

/-- 'laws.FnWorldSure': WHATEVER THE INPUT: true; the input reads as it did. -/
def fnWorldSureSpec : ChangeSpec := { name := "fnWorldSure", fn := fun _ => fun
  | [d] => { results := [.lit (.bool true)], args := [d] }
  | _ => none }
def fnWorldSureRow : OpenClaim := { program := "ytlepfdmolankeaa", sum := "8e964876b6c685a5660fcf9572cace488d0db2a2ae7361fdd07b0d83d96dc13d", func := "loop.example/witan/laws.FnWorldSure", spec := "fnWorldSure", unfollowed := true, recurses := true, apart := false }
def FnWorldSureSaid : Prop := fnWorldSureRow.holds Try.pinned (OpenSpec.ofChange fnWorldSureSpec)

/-- ITS FALSE NEIGHBOUR: 'it returns false'. Refute it at one input. -/
def fnWorldSureWrong : ChangeSpec := { name := "fnWorldSure", fn := fun _ => fun
  | [d] => { results := [.lit (.bool false)], args := [d] }
  | _ => none }
def FnWorldSureWrongFalsely : Prop := fnWorldSureRow.holds Try.pinned (OpenSpec.ofChange fnWorldSureWrong)

/-- 'laws.FnWorldLeaders': WHATEVER THE INPUT: true; the input reads as it did. -/
def fnWorldLeadersSpec : ChangeSpec := { name := "fnWorldLeaders", fn := fun _ => fun
  | [d] => { results := [.lit (.bool true)], args := [d] }
  | _ => none }
def fnWorldLeadersRow : OpenClaim := { program := "ytlepfdmolankeaa", sum := "8e964876b6c685a5660fcf9572cace488d0db2a2ae7361fdd07b0d83d96dc13d", func := "loop.example/witan/laws.FnWorldLeaders", spec := "fnWorldLeaders", unfollowed := true, recurses := true, apart := false }
def FnWorldLeadersSaid : Prop := fnWorldLeadersRow.holds Try.pinned (OpenSpec.ofChange fnWorldLeadersSpec)

/-- ITS FALSE NEIGHBOUR: 'it returns false'. Refute it at one input. -/
def fnWorldLeadersWrong : ChangeSpec := { name := "fnWorldLeaders", fn := fun _ => fun
  | [d] => { results := [.lit (.bool false)], args := [d] }
  | _ => none }
def FnWorldLeadersWrongFalsely : Prop := fnWorldLeadersRow.holds Try.pinned (OpenSpec.ofChange fnWorldLeadersWrong)

/-- 'laws.FnWorldUnheard': WHATEVER THE INPUT: true; the input reads as it did. -/
def fnWorldUnheardSpec : ChangeSpec := { name := "fnWorldUnheard", fn := fun _ => fun
  | [d] => { results := [.lit (.bool true)], args := [d] }
  | _ => none }
def fnWorldUnheardRow : OpenClaim := { program := "ytlepfdmolankeaa", sum := "8e964876b6c685a5660fcf9572cace488d0db2a2ae7361fdd07b0d83d96dc13d", func := "loop.example/witan/laws.FnWorldUnheard", spec := "fnWorldUnheard", unfollowed := true, recurses := true, apart := false }
def FnWorldUnheardSaid : Prop := fnWorldUnheardRow.holds Try.pinned (OpenSpec.ofChange fnWorldUnheardSpec)

/-- ITS FALSE NEIGHBOUR: 'it returns false'. Refute it at one input. -/
def fnWorldUnheardWrong : ChangeSpec := { name := "fnWorldUnheard", fn := fun _ => fun
  | [d] => { results := [.lit (.bool false)], args := [d] }
  | _ => none }
def FnWorldUnheardWrongFalsely : Prop := fnWorldUnheardRow.holds Try.pinned (OpenSpec.ofChange fnWorldUnheardWrong)

/-- 'laws.FnWorldCut': WHATEVER THE INPUT: true; the input reads as it did. -/
def fnWorldCutSpec : ChangeSpec := { name := "fnWorldCut", fn := fun _ => fun
  | [d1, d2] => { results := [.lit (.bool true)], args := [d1, d2] }
  | _ => none }
def fnWorldCutRow : OpenClaim := { program := "ytlepfdmolankeaa", sum := "8e964876b6c685a5660fcf9572cace488d0db2a2ae7361fdd07b0d83d96dc13d", func := "loop.example/witan/laws.FnWorldCut", spec := "fnWorldCut", unfollowed := true, recurses := true, apart := false }
def FnWorldCutSaid : Prop := fnWorldCutRow.holds Try.pinned (OpenSpec.ofChange fnWorldCutSpec)

/-- ITS FALSE NEIGHBOUR: 'it returns false'. Refute it at one input. -/
def fnWorldCutWrong : ChangeSpec := { name := "fnWorldCut", fn := fun _ => fun
  | [d1, d2] => { results := [.lit (.bool false)], args := [d1, d2] }
  | _ => none }
def FnWorldCutWrongFalsely : Prop := fnWorldCutRow.holds Try.pinned (OpenSpec.ofChange fnWorldCutWrong)

/-- 'laws.FnWorldStays': WHATEVER THE INPUT: true; the input reads as it did. -/
def fnWorldStaysSpec : ChangeSpec := { name := "fnWorldStays", fn := fun _ => fun
  | [d1, d2] => { results := [.lit (.bool true)], args := [d1, d2] }
  | _ => none }
def fnWorldStaysRow : OpenClaim := { program := "ytlepfdmolankeaa", sum := "8e964876b6c685a5660fcf9572cace488d0db2a2ae7361fdd07b0d83d96dc13d", func := "loop.example/witan/laws.FnWorldStays", spec := "fnWorldStays", unfollowed := true, recurses := true, apart := false }
def FnWorldStaysSaid : Prop := fnWorldStaysRow.holds Try.pinned (OpenSpec.ofChange fnWorldStaysSpec)

/-- ITS FALSE NEIGHBOUR: 'it returns false'. Refute it at one input. -/
def fnWorldStaysWrong : ChangeSpec := { name := "fnWorldStays", fn := fun _ => fun
  | [d1, d2] => { results := [.lit (.bool false)], args := [d1, d2] }
  | _ => none }
def FnWorldStaysWrongFalsely : Prop := fnWorldStaysRow.holds Try.pinned (OpenSpec.ofChange fnWorldStaysWrong)

/-- 'laws.FnWorldSilent': WHATEVER THE INPUT: true; the input reads as it did. -/
def fnWorldSilentSpec : ChangeSpec := { name := "fnWorldSilent", fn := fun _ => fun
  | [d] => { results := [.lit (.bool true)], args := [d] }
  | _ => none }
def fnWorldSilentRow : OpenClaim := { program := "ytlepfdmolankeaa", sum := "8e964876b6c685a5660fcf9572cace488d0db2a2ae7361fdd07b0d83d96dc13d", func := "loop.example/witan/laws.FnWorldSilent", spec := "fnWorldSilent", unfollowed := true, recurses := true, apart := false }
def FnWorldSilentSaid : Prop := fnWorldSilentRow.holds Try.pinned (OpenSpec.ofChange fnWorldSilentSpec)

/-- ITS FALSE NEIGHBOUR: 'it returns false'. Refute it at one input. -/
def fnWorldSilentWrong : ChangeSpec := { name := "fnWorldSilent", fn := fun _ => fun
  | [d] => { results := [.lit (.bool false)], args := [d] }
  | _ => none }
def FnWorldSilentWrongFalsely : Prop := fnWorldSilentRow.holds Try.pinned (OpenSpec.ofChange fnWorldSilentWrong)

/- THE SECOND FORM. 'bulk': how many values and letters a reading holds, each counted each time it is reached (what is shared counts as often as it is met; a slice's spare places count too). A statement '..UptoSaid' is the law's where the arguments, and the package variables that the reading takes, are together of bulk at most 1048576: NARROWER than '..Said'. Prove '..Said' where nothing that the law and all that it calls make is longer than what came in: it says more and counts as full. Else prove '..UptoSaid'. A law counts once. -/
mutual
def uptoBulk {H : Type} : DataW H → Nat
  | .lit (.string bytes) => bytes.length + 1
  | .lit _ => 1
  | .nil => 1
  | .ptr d => uptoBulk d + 1
  | .slice elems spare => uptoBulkAll elems + uptoBulkAll spare + 1
  | .agg parts => uptoBulkAll parts + 1
  | .iface _ d => uptoBulk d + 1
  | .map entries => uptoBulkEntries entries + 1
  | .held _ => 1
def uptoBulkAll {H : Type} : List (DataW H) → Nat
  | [] => 0
  | d :: r => uptoBulk d + uptoBulkAll r
def uptoBulkEntries {H : Type} : List (Lit × DataW H) → Nat
  | [] => 0
  | x :: r => uptoBulkEntry x + uptoBulkEntries r
def uptoBulkEntry {H : Type} : Lit × DataW H → Nat
  | (.string bytes, d) => bytes.length + uptoBulk d + 1
  | (_, d) => uptoBulk d + 1
 end
def uptoSmall : (H : Type) → List (DataW H) → Bool := fun _ ds => decide (uptoBulkAll ds ≤ 1048576)
def OpenSpec.upto (s : _root_.Go.ChangeSpec) : _root_.Go.OpenSpec := { _root_.Go.OpenSpec.ofChange s with cond := some uptoSmall }

/-- 'laws.FnWorldProposed', WHERE WHAT IT READS IS OF BULK AT MOST 1048576: true; the input reads as it did. -/
def fnWorldProposedUptoRow : OpenClaim := { program := "ytlepfdmolankeaa", sum := "8e964876b6c685a5660fcf9572cace488d0db2a2ae7361fdd07b0d83d96dc13d", func := "loop.example/witan/laws.FnWorldProposed", spec := "fnWorldProposed", unfollowed := true, recurses := true, apart := false, narrowed := true }
def FnWorldProposedUptoSaid : Prop := fnWorldProposedUptoRow.holds Try.pinned (OpenSpec.upto fnWorldProposedSpec)

/-- 'laws.FnWorldSeen', WHERE WHAT IT READS IS OF BULK AT MOST 1048576: true; the input reads as it did. -/
def fnWorldSeenUptoRow : OpenClaim := { program := "ytlepfdmolankeaa", sum := "8e964876b6c685a5660fcf9572cace488d0db2a2ae7361fdd07b0d83d96dc13d", func := "loop.example/witan/laws.FnWorldSeen", spec := "fnWorldSeen", unfollowed := true, recurses := true, apart := false, narrowed := true }
def FnWorldSeenUptoSaid : Prop := fnWorldSeenUptoRow.holds Try.pinned (OpenSpec.upto fnWorldSeenSpec)

/-- 'laws.FnWorldBehind', WHERE WHAT IT READS IS OF BULK AT MOST 1048576: true; the input reads as it did. -/
def fnWorldBehindUptoRow : OpenClaim := { program := "ytlepfdmolankeaa", sum := "8e964876b6c685a5660fcf9572cace488d0db2a2ae7361fdd07b0d83d96dc13d", func := "loop.example/witan/laws.FnWorldBehind", spec := "fnWorldBehind", unfollowed := true, recurses := true, apart := false, narrowed := true }
def FnWorldBehindUptoSaid : Prop := fnWorldBehindUptoRow.holds Try.pinned (OpenSpec.upto fnWorldBehindSpec)

/-- 'laws.FnWorldAlone', WHERE WHAT IT READS IS OF BULK AT MOST 1048576: true; the input reads as it did. -/
def fnWorldAloneUptoRow : OpenClaim := { program := "ytlepfdmolankeaa", sum := "8e964876b6c685a5660fcf9572cace488d0db2a2ae7361fdd07b0d83d96dc13d", func := "loop.example/witan/laws.FnWorldAlone", spec := "fnWorldAlone", unfollowed := true, recurses := true, apart := false, narrowed := true }
def FnWorldAloneUptoSaid : Prop := fnWorldAloneUptoRow.holds Try.pinned (OpenSpec.upto fnWorldAloneSpec)

/-- 'laws.FnWorldEpochs', WHERE WHAT IT READS IS OF BULK AT MOST 1048576: true; the input reads as it did. -/
def fnWorldEpochsUptoRow : OpenClaim := { program := "ytlepfdmolankeaa", sum := "8e964876b6c685a5660fcf9572cace488d0db2a2ae7361fdd07b0d83d96dc13d", func := "loop.example/witan/laws.FnWorldEpochs", spec := "fnWorldEpochs", unfollowed := true, recurses := true, apart := false, narrowed := true }
def FnWorldEpochsUptoSaid : Prop := fnWorldEpochsUptoRow.holds Try.pinned (OpenSpec.upto fnWorldEpochsSpec)

/-- 'laws.FnWorldNodes', WHERE WHAT IT READS IS OF BULK AT MOST 1048576: true; the input reads as it did. -/
def fnWorldNodesUptoRow : OpenClaim := { program := "ytlepfdmolankeaa", sum := "8e964876b6c685a5660fcf9572cace488d0db2a2ae7361fdd07b0d83d96dc13d", func := "loop.example/witan/laws.FnWorldNodes", spec := "fnWorldNodes", unfollowed := true, recurses := true, apart := false, narrowed := true }
def FnWorldNodesUptoSaid : Prop := fnWorldNodesUptoRow.holds Try.pinned (OpenSpec.upto fnWorldNodesSpec)

/-- 'laws.FnWorldSure', WHERE WHAT IT READS IS OF BULK AT MOST 1048576: true; the input reads as it did. -/
def fnWorldSureUptoRow : OpenClaim := { program := "ytlepfdmolankeaa", sum := "8e964876b6c685a5660fcf9572cace488d0db2a2ae7361fdd07b0d83d96dc13d", func := "loop.example/witan/laws.FnWorldSure", spec := "fnWorldSure", unfollowed := true, recurses := true, apart := false, narrowed := true }
def FnWorldSureUptoSaid : Prop := fnWorldSureUptoRow.holds Try.pinned (OpenSpec.upto fnWorldSureSpec)

/-- 'laws.FnWorldLeaders', WHERE WHAT IT READS IS OF BULK AT MOST 1048576: true; the input reads as it did. -/
def fnWorldLeadersUptoRow : OpenClaim := { program := "ytlepfdmolankeaa", sum := "8e964876b6c685a5660fcf9572cace488d0db2a2ae7361fdd07b0d83d96dc13d", func := "loop.example/witan/laws.FnWorldLeaders", spec := "fnWorldLeaders", unfollowed := true, recurses := true, apart := false, narrowed := true }
def FnWorldLeadersUptoSaid : Prop := fnWorldLeadersUptoRow.holds Try.pinned (OpenSpec.upto fnWorldLeadersSpec)

/-- 'laws.FnWorldUnheard', WHERE WHAT IT READS IS OF BULK AT MOST 1048576: true; the input reads as it did. -/
def fnWorldUnheardUptoRow : OpenClaim := { program := "ytlepfdmolankeaa", sum := "8e964876b6c685a5660fcf9572cace488d0db2a2ae7361fdd07b0d83d96dc13d", func := "loop.example/witan/laws.FnWorldUnheard", spec := "fnWorldUnheard", unfollowed := true, recurses := true, apart := false, narrowed := true }
def FnWorldUnheardUptoSaid : Prop := fnWorldUnheardUptoRow.holds Try.pinned (OpenSpec.upto fnWorldUnheardSpec)

/-- 'laws.FnWorldCut', WHERE WHAT IT READS IS OF BULK AT MOST 1048576: true; the input reads as it did. -/
def fnWorldCutUptoRow : OpenClaim := { program := "ytlepfdmolankeaa", sum := "8e964876b6c685a5660fcf9572cace488d0db2a2ae7361fdd07b0d83d96dc13d", func := "loop.example/witan/laws.FnWorldCut", spec := "fnWorldCut", unfollowed := true, recurses := true, apart := false, narrowed := true }
def FnWorldCutUptoSaid : Prop := fnWorldCutUptoRow.holds Try.pinned (OpenSpec.upto fnWorldCutSpec)

/-- 'laws.FnWorldStays', WHERE WHAT IT READS IS OF BULK AT MOST 1048576: true; the input reads as it did. -/
def fnWorldStaysUptoRow : OpenClaim := { program := "ytlepfdmolankeaa", sum := "8e964876b6c685a5660fcf9572cace488d0db2a2ae7361fdd07b0d83d96dc13d", func := "loop.example/witan/laws.FnWorldStays", spec := "fnWorldStays", unfollowed := true, recurses := true, apart := false, narrowed := true }
def FnWorldStaysUptoSaid : Prop := fnWorldStaysUptoRow.holds Try.pinned (OpenSpec.upto fnWorldStaysSpec)

/-- 'laws.FnWorldSilent', WHERE WHAT IT READS IS OF BULK AT MOST 1048576: true; the input reads as it did. -/
def fnWorldSilentUptoRow : OpenClaim := { program := "ytlepfdmolankeaa", sum := "8e964876b6c685a5660fcf9572cace488d0db2a2ae7361fdd07b0d83d96dc13d", func := "loop.example/witan/laws.FnWorldSilent", spec := "fnWorldSilent", unfollowed := true, recurses := true, apart := false, narrowed := true }
def FnWorldSilentUptoSaid : Prop := fnWorldSilentUptoRow.holds Try.pinned (OpenSpec.upto fnWorldSilentSpec)

end Rows
end Go.Proofs.Ytlepfdmolankeaa
