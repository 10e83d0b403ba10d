/-
  No cell of these rows narrows 'for every input' (looked for: loops, veiled, ifaces, maps, wideKeys, modest, calm, conditions, laid).
  DERIVED. THE GIVEN ROWS OF THIS SEAT. 5 by the template 'for every input the law returns true; each argument reads behind the call as it read before'; 0 by the template 'total and deterministic' (their statements: YtmabpmlcclgecaaTotals.lean).
  GIVEN WITH THE SEED: the statements are not yours to turn. If you find one false, say at which input.
  Laid BY PROGRAM, IN A SANDBOX (cutbox-rows.mjs): the forced cells as the released guide's own fill.sh prints them over the translation c6af97aeb4125c92… (all of the seat's roots in one cut). By AI agents, Wed Nov 11 2026. No macro, syntax, notation, axiom, sorry.
-/
import Derived.Test.YtmabpmlcclgecaaChecked
import GoSem.Claim
import GoSem.ClaimJoined
import GoSem.ClaimMapViews
import Derived.JoinedTies
import Derived.KernelRfl
namespace Go.Proofs.Ytmabpmlcclgecaa
/- THE CELL 'sum', in the pinned program and in every row, IS THE sha256 OF THE DUMP (.gsa) THAT YtmabpmlcclgecaaProg.lean LOADS. Nothing in Lean hashes anything: it is a label: what it is worth is what the hold of that sum in a sandbox is worth. -/
noncomputable def Try.pinned : Pinned := { name := "ytmabpmlcclgecaa", sum := "c6af97aeb4125c92c8a936b420bee4c3e8fe40aa11381dcca3cf2a40212ab6b2", checked := Try.checked }
namespace Rows
def none {H : Type} : Left H := { results := [], args := [] }

/-- 'laws.FnHearVote': WHATEVER THE INPUT: true; the input reads as it did. -/
def fnHearVoteSpec : ChangeSpec := { name := "fnHearVote", fn := fun _ => fun
  | [d] => { results := [.lit (.bool true)], args := [d] }
  | _ => none }
def fnHearVoteRow : OpenClaim := { program := "ytmabpmlcclgecaa", sum := "c6af97aeb4125c92c8a936b420bee4c3e8fe40aa11381dcca3cf2a40212ab6b2", func := "loop.example/witan/laws.FnHearVote", spec := "fnHearVote", unfollowed := true, recurses := true, apart := false }
def FnHearVoteSaid : Prop := fnHearVoteRow.holds Try.pinned (OpenSpec.ofChange fnHearVoteSpec)

/-- ITS FALSE NEIGHBOUR: 'it returns false'. Refute it at one input. -/
def fnHearVoteWrong : ChangeSpec := { name := "fnHearVote", fn := fun _ => fun
  | [d] => { results := [.lit (.bool false)], args := [d] }
  | _ => none }
def FnHearVoteWrongFalsely : Prop := fnHearVoteRow.holds Try.pinned (OpenSpec.ofChange fnHearVoteWrong)

/-- 'laws.FnHearOnce': WHATEVER THE INPUT: true; the input reads as it did. -/
def fnHearOnceSpec : ChangeSpec := { name := "fnHearOnce", fn := fun _ => fun
  | [d1, d2] => { results := [.lit (.bool true)], args := [d1, d2] }
  | _ => none }
def fnHearOnceRow : OpenClaim := { program := "ytmabpmlcclgecaa", sum := "c6af97aeb4125c92c8a936b420bee4c3e8fe40aa11381dcca3cf2a40212ab6b2", func := "loop.example/witan/laws.FnHearOnce", spec := "fnHearOnce", unfollowed := true, recurses := true, apart := false }
def FnHearOnceSaid : Prop := fnHearOnceRow.holds Try.pinned (OpenSpec.ofChange fnHearOnceSpec)

/-- ITS FALSE NEIGHBOUR: 'it returns false'. Refute it at one input. -/
def fnHearOnceWrong : ChangeSpec := { name := "fnHearOnce", fn := fun _ => fun
  | [d1, d2] => { results := [.lit (.bool false)], args := [d1, d2] }
  | _ => none }
def FnHearOnceWrongFalsely : Prop := fnHearOnceRow.holds Try.pinned (OpenSpec.ofChange fnHearOnceWrong)

/-- 'laws.FnHearLeader': WHATEVER THE INPUT: true; the input reads as it did. -/
def fnHearLeaderSpec : ChangeSpec := { name := "fnHearLeader", fn := fun _ => fun
  | [d] => { results := [.lit (.bool true)], args := [d] }
  | _ => none }
def fnHearLeaderRow : OpenClaim := { program := "ytmabpmlcclgecaa", sum := "c6af97aeb4125c92c8a936b420bee4c3e8fe40aa11381dcca3cf2a40212ab6b2", func := "loop.example/witan/laws.FnHearLeader", spec := "fnHearLeader", unfollowed := true, recurses := true, apart := false }
def FnHearLeaderSaid : Prop := fnHearLeaderRow.holds Try.pinned (OpenSpec.ofChange fnHearLeaderSpec)

/-- ITS FALSE NEIGHBOUR: 'it returns false'. Refute it at one input. -/
def fnHearLeaderWrong : ChangeSpec := { name := "fnHearLeader", fn := fun _ => fun
  | [d] => { results := [.lit (.bool false)], args := [d] }
  | _ => none }
def FnHearLeaderWrongFalsely : Prop := fnHearLeaderRow.holds Try.pinned (OpenSpec.ofChange fnHearLeaderWrong)

/-- 'laws.FnHearShort': WHATEVER THE INPUT: true; the input reads as it did. -/
def fnHearShortSpec : ChangeSpec := { name := "fnHearShort", fn := fun _ => fun
  | [d1, d2] => { results := [.lit (.bool true)], args := [d1, d2] }
  | _ => none }
def fnHearShortRow : OpenClaim := { program := "ytmabpmlcclgecaa", sum := "c6af97aeb4125c92c8a936b420bee4c3e8fe40aa11381dcca3cf2a40212ab6b2", func := "loop.example/witan/laws.FnHearShort", spec := "fnHearShort", unfollowed := true, recurses := true, apart := false }
def FnHearShortSaid : Prop := fnHearShortRow.holds Try.pinned (OpenSpec.ofChange fnHearShortSpec)

/-- ITS FALSE NEIGHBOUR: 'it returns false'. Refute it at one input. -/
def fnHearShortWrong : ChangeSpec := { name := "fnHearShort", fn := fun _ => fun
  | [d1, d2] => { results := [.lit (.bool false)], args := [d1, d2] }
  | _ => none }
def FnHearShortWrongFalsely : Prop := fnHearShortRow.holds Try.pinned (OpenSpec.ofChange fnHearShortWrong)

/-- 'laws.FnNodeBook': WHATEVER THE INPUT: true; the input reads as it did. -/
def fnNodeBookSpec : ChangeSpec := { name := "fnNodeBook", fn := fun _ => fun
  | [d] => { results := [.lit (.bool true)], args := [d] }
  | _ => none }
def fnNodeBookRow : OpenClaim := { program := "ytmabpmlcclgecaa", sum := "c6af97aeb4125c92c8a936b420bee4c3e8fe40aa11381dcca3cf2a40212ab6b2", func := "loop.example/witan/laws.FnNodeBook", spec := "fnNodeBook", unfollowed := true, recurses := true, apart := false }
def FnNodeBookSaid : Prop := fnNodeBookRow.holds Try.pinned (OpenSpec.ofChange fnNodeBookSpec)

/-- ITS FALSE NEIGHBOUR: 'it returns false'. Refute it at one input. -/
def fnNodeBookWrong : ChangeSpec := { name := "fnNodeBook", fn := fun _ => fun
  | [d] => { results := [.lit (.bool false)], args := [d] }
  | _ => none }
def FnNodeBookWrongFalsely : Prop := fnNodeBookRow.holds Try.pinned (OpenSpec.ofChange fnNodeBookWrong)

/- THE SECOND FORM. 'bulk': how many values and letters a reading holds, each counted each time it is reached (what is shared counts as often as it is met; a slice's spare places count too). A statement '..UptoSaid' is the law's where the arguments, and the package variables that the reading takes, are together of bulk at most 1048576: NARROWER than '..Said'. Prove '..Said' where nothing that the law and all that it calls make is longer than what came in: it says more and counts as full. Else prove '..UptoSaid'. A law counts once. -/
mutual
def uptoBulk {H : Type} : DataW H → Nat
  | .lit (.string bytes) => bytes.length + 1
  | .lit _ => 1
  | .nil => 1
  | .ptr d => uptoBulk d + 1
  | .slice elems spare => uptoBulkAll elems + uptoBulkAll spare + 1
  | .agg parts => uptoBulkAll parts + 1
  | .iface _ d => uptoBulk d + 1
  | .map entries => uptoBulkEntries entries + 1
  | .held _ => 1
def uptoBulkAll {H : Type} : List (DataW H) → Nat
  | [] => 0
  | d :: r => uptoBulk d + uptoBulkAll r
def uptoBulkEntries {H : Type} : List (Lit × DataW H) → Nat
  | [] => 0
  | x :: r => uptoBulkEntry x + uptoBulkEntries r
def uptoBulkEntry {H : Type} : Lit × DataW H → Nat
  | (.string bytes, d) => bytes.length + uptoBulk d + 1
  | (_, d) => uptoBulk d + 1
 end
def uptoSmall : (H : Type) → List (DataW H) → Bool := fun _ ds => decide (uptoBulkAll ds ≤ 1048576)
def OpenSpec.upto (s : _root_.Go.ChangeSpec) : _root_.Go.OpenSpec := { _root_.Go.OpenSpec.ofChange s with cond := some uptoSmall }

/-- 'laws.FnHearVote', WHERE WHAT IT READS IS OF BULK AT MOST 1048576: true; the input reads as it did. -/
def fnHearVoteUptoRow : OpenClaim := { program := "ytmabpmlcclgecaa", sum := "c6af97aeb4125c92c8a936b420bee4c3e8fe40aa11381dcca3cf2a40212ab6b2", func := "loop.example/witan/laws.FnHearVote", spec := "fnHearVote", unfollowed := true, recurses := true, apart := false, narrowed := true }
def FnHearVoteUptoSaid : Prop := fnHearVoteUptoRow.holds Try.pinned (OpenSpec.upto fnHearVoteSpec)

/-- 'laws.FnHearOnce', WHERE WHAT IT READS IS OF BULK AT MOST 1048576: true; the input reads as it did. -/
def fnHearOnceUptoRow : OpenClaim := { program := "ytmabpmlcclgecaa", sum := "c6af97aeb4125c92c8a936b420bee4c3e8fe40aa11381dcca3cf2a40212ab6b2", func := "loop.example/witan/laws.FnHearOnce", spec := "fnHearOnce", unfollowed := true, recurses := true, apart := false, narrowed := true }
def FnHearOnceUptoSaid : Prop := fnHearOnceUptoRow.holds Try.pinned (OpenSpec.upto fnHearOnceSpec)

/-- 'laws.FnHearLeader', WHERE WHAT IT READS IS OF BULK AT MOST 1048576: true; the input reads as it did. -/
def fnHearLeaderUptoRow : OpenClaim := { program := "ytmabpmlcclgecaa", sum := "c6af97aeb4125c92c8a936b420bee4c3e8fe40aa11381dcca3cf2a40212ab6b2", func := "loop.example/witan/laws.FnHearLeader", spec := "fnHearLeader", unfollowed := true, recurses := true, apart := false, narrowed := true }
def FnHearLeaderUptoSaid : Prop := fnHearLeaderUptoRow.holds Try.pinned (OpenSpec.upto fnHearLeaderSpec)

/-- 'laws.FnHearShort', WHERE WHAT IT READS IS OF BULK AT MOST 1048576: true; the input reads as it did. -/
def fnHearShortUptoRow : OpenClaim := { program := "ytmabpmlcclgecaa", sum := "c6af97aeb4125c92c8a936b420bee4c3e8fe40aa11381dcca3cf2a40212ab6b2", func := "loop.example/witan/laws.FnHearShort", spec := "fnHearShort", unfollowed := true, recurses := true, apart := false, narrowed := true }
def FnHearShortUptoSaid : Prop := fnHearShortUptoRow.holds Try.pinned (OpenSpec.upto fnHearShortSpec)

/-- 'laws.FnNodeBook', WHERE WHAT IT READS IS OF BULK AT MOST 1048576: true; the input reads as it did. -/
def fnNodeBookUptoRow : OpenClaim := { program := "ytmabpmlcclgecaa", sum := "c6af97aeb4125c92c8a936b420bee4c3e8fe40aa11381dcca3cf2a40212ab6b2", func := "loop.example/witan/laws.FnNodeBook", spec := "fnNodeBook", unfollowed := true, recurses := true, apart := false, narrowed := true }
def FnNodeBookUptoSaid : Prop := fnNodeBookUptoRow.holds Try.pinned (OpenSpec.upto fnNodeBookSpec)

end Rows
end Go.Proofs.Ytmabpmlcclgecaa
