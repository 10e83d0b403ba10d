/-
  No cell of these rows narrows 'for every input' (looked for: loops, veiled, ifaces, maps, wideKeys, modest, calm, conditions, laid).
  DERIVED. THE GIVEN ROWS OF THIS SEAT. 11 by the template 'for every input the law returns true; each argument reads behind the call as it read before'; 0 by the template 'total and deterministic' (their statements: YtompnmkpgffhkaaGreatTotals.lean).
  GIVEN WITH THE SEED: the statements are not yours to turn. If you find one false, say at which input.
  Laid BY PROGRAM, IN A SANDBOX (cutbox-rows.mjs): the forced cells as the released guide's own fill.sh prints them over the translation 859abb44f97cfd33… (all of the seat's roots in one cut). By AI agents, Wed Nov 11 2026. No macro, syntax, notation, axiom, sorry.
-/
import Derived.Test.YtompnmkpgffhkaaGreatChecked
import GoSem.Claim
import GoSem.ClaimJoined
import GoSem.ClaimMapViews
import Derived.JoinedTies
import Derived.KernelRfl
namespace Go.Proofs.YtompnmkpgffhkaaGreat
/- THE CELL 'sum', in the pinned program and in every row, IS THE sha256 OF THE DUMP (.gsa) THAT YtompnmkpgffhkaaGreatProg.lean LOADS. Nothing in Lean hashes anything: it is a label: what it is worth is what the hold of that sum in a sandbox is worth. -/
noncomputable def Tryz.pinned : Pinned := { name := "ytompnmkpgffhkaagreat", sum := "859abb44f97cfd333594f0a3468236ef9169b36fa1e1726cd774e4776cc58700", checked := Tryz.checked }
namespace Rows
def none {H : Type} : Left H := { results := [], args := [] }

/-- 'laws.FnWorldAgree': WHATEVER THE INPUT: true; the input reads as it did. -/
def fnWorldAgreeSpec : ChangeSpec := { name := "fnWorldAgree", fn := fun _ => fun
  | [d] => { results := [.lit (.bool true)], args := [d] }
  | _ => none }
def fnWorldAgreeRow : OpenClaim := { program := "ytompnmkpgffhkaagreat", sum := "859abb44f97cfd333594f0a3468236ef9169b36fa1e1726cd774e4776cc58700", func := "loop.example/witan/laws.FnWorldAgree", spec := "fnWorldAgree", unfollowed := true, recurses := true, apart := false }
def FnWorldAgreeSaid : Prop := fnWorldAgreeRow.holds Tryz.pinned (OpenSpec.ofChange fnWorldAgreeSpec)

/-- ITS FALSE NEIGHBOUR: 'it returns false'. Refute it at one input. -/
def fnWorldAgreeWrong : ChangeSpec := { name := "fnWorldAgree", fn := fun _ => fun
  | [d] => { results := [.lit (.bool false)], args := [d] }
  | _ => none }
def FnWorldAgreeWrongFalsely : Prop := fnWorldAgreeRow.holds Tryz.pinned (OpenSpec.ofChange fnWorldAgreeWrong)

/-- 'laws.FnWorldAll': WHATEVER THE INPUT: true; the input reads as it did. -/
def fnWorldAllSpec : ChangeSpec := { name := "fnWorldAll", fn := fun _ => fun
  | [d] => { results := [.lit (.bool true)], args := [d] }
  | _ => none }
def fnWorldAllRow : OpenClaim := { program := "ytompnmkpgffhkaagreat", sum := "859abb44f97cfd333594f0a3468236ef9169b36fa1e1726cd774e4776cc58700", func := "loop.example/witan/laws.FnWorldAll", spec := "fnWorldAll", unfollowed := true, recurses := true, apart := false }
def FnWorldAllSaid : Prop := fnWorldAllRow.holds Tryz.pinned (OpenSpec.ofChange fnWorldAllSpec)

/-- ITS FALSE NEIGHBOUR: 'it returns false'. Refute it at one input. -/
def fnWorldAllWrong : ChangeSpec := { name := "fnWorldAll", fn := fun _ => fun
  | [d] => { results := [.lit (.bool false)], args := [d] }
  | _ => none }
def FnWorldAllWrongFalsely : Prop := fnWorldAllRow.holds Tryz.pinned (OpenSpec.ofChange fnWorldAllWrong)

/-- 'laws.FnWorldLate': WHATEVER THE INPUT: true; the input reads as it did. -/
def fnWorldLateSpec : ChangeSpec := { name := "fnWorldLate", fn := fun _ => fun
  | [d1, d2] => { results := [.lit (.bool true)], args := [d1, d2] }
  | _ => none }
def fnWorldLateRow : OpenClaim := { program := "ytompnmkpgffhkaagreat", sum := "859abb44f97cfd333594f0a3468236ef9169b36fa1e1726cd774e4776cc58700", func := "loop.example/witan/laws.FnWorldLate", spec := "fnWorldLate", unfollowed := true, recurses := true, apart := false }
def FnWorldLateSaid : Prop := fnWorldLateRow.holds Tryz.pinned (OpenSpec.ofChange fnWorldLateSpec)

/-- ITS FALSE NEIGHBOUR: 'it returns false'. Refute it at one input. -/
def fnWorldLateWrong : ChangeSpec := { name := "fnWorldLate", fn := fun _ => fun
  | [d1, d2] => { results := [.lit (.bool false)], args := [d1, d2] }
  | _ => none }
def FnWorldLateWrongFalsely : Prop := fnWorldLateRow.holds Tryz.pinned (OpenSpec.ofChange fnWorldLateWrong)

/-- 'laws.FnWorldBooks': WHATEVER THE INPUT: true; the input reads as it did. -/
def fnWorldBooksSpec : ChangeSpec := { name := "fnWorldBooks", fn := fun _ => fun
  | [d] => { results := [.lit (.bool true)], args := [d] }
  | _ => none }
def fnWorldBooksRow : OpenClaim := { program := "ytompnmkpgffhkaagreat", sum := "859abb44f97cfd333594f0a3468236ef9169b36fa1e1726cd774e4776cc58700", func := "loop.example/witan/laws.FnWorldBooks", spec := "fnWorldBooks", unfollowed := true, recurses := true, apart := false }
def FnWorldBooksSaid : Prop := fnWorldBooksRow.holds Tryz.pinned (OpenSpec.ofChange fnWorldBooksSpec)

/-- ITS FALSE NEIGHBOUR: 'it returns false'. Refute it at one input. -/
def fnWorldBooksWrong : ChangeSpec := { name := "fnWorldBooks", fn := fun _ => fun
  | [d] => { results := [.lit (.bool false)], args := [d] }
  | _ => none }
def FnWorldBooksWrongFalsely : Prop := fnWorldBooksRow.holds Tryz.pinned (OpenSpec.ofChange fnWorldBooksWrong)

/-- 'laws.FnWorldMost': WHATEVER THE INPUT: true; the input reads as it did. -/
def fnWorldMostSpec : ChangeSpec := { name := "fnWorldMost", fn := fun _ => fun
  | [d] => { results := [.lit (.bool true)], args := [d] }
  | _ => none }
def fnWorldMostRow : OpenClaim := { program := "ytompnmkpgffhkaagreat", sum := "859abb44f97cfd333594f0a3468236ef9169b36fa1e1726cd774e4776cc58700", func := "loop.example/witan/laws.FnWorldMost", spec := "fnWorldMost", unfollowed := true, recurses := true, apart := false }
def FnWorldMostSaid : Prop := fnWorldMostRow.holds Tryz.pinned (OpenSpec.ofChange fnWorldMostSpec)

/-- ITS FALSE NEIGHBOUR: 'it returns false'. Refute it at one input. -/
def fnWorldMostWrong : ChangeSpec := { name := "fnWorldMost", fn := fun _ => fun
  | [d] => { results := [.lit (.bool false)], args := [d] }
  | _ => none }
def FnWorldMostWrongFalsely : Prop := fnWorldMostRow.holds Tryz.pinned (OpenSpec.ofChange fnWorldMostWrong)

/-- 'laws.FnWorldShown': WHATEVER THE INPUT: true; the input reads as it did. -/
def fnWorldShownSpec : ChangeSpec := { name := "fnWorldShown", fn := fun _ => fun
  | [d1, d2] => { results := [.lit (.bool true)], args := [d1, d2] }
  | _ => none }
def fnWorldShownRow : OpenClaim := { program := "ytompnmkpgffhkaagreat", sum := "859abb44f97cfd333594f0a3468236ef9169b36fa1e1726cd774e4776cc58700", func := "loop.example/witan/laws.FnWorldShown", spec := "fnWorldShown", unfollowed := true, recurses := true, apart := false }
def FnWorldShownSaid : Prop := fnWorldShownRow.holds Tryz.pinned (OpenSpec.ofChange fnWorldShownSpec)

/-- ITS FALSE NEIGHBOUR: 'it returns false'. Refute it at one input. -/
def fnWorldShownWrong : ChangeSpec := { name := "fnWorldShown", fn := fun _ => fun
  | [d1, d2] => { results := [.lit (.bool false)], args := [d1, d2] }
  | _ => none }
def FnWorldShownWrongFalsely : Prop := fnWorldShownRow.holds Tryz.pinned (OpenSpec.ofChange fnWorldShownWrong)

/-- 'laws.FnWorldCalm': WHATEVER THE INPUT: true; the input reads as it did. -/
def fnWorldCalmSpec : ChangeSpec := { name := "fnWorldCalm", fn := fun _ => fun
  | [d] => { results := [.lit (.bool true)], args := [d] }
  | _ => none }
def fnWorldCalmRow : OpenClaim := { program := "ytompnmkpgffhkaagreat", sum := "859abb44f97cfd333594f0a3468236ef9169b36fa1e1726cd774e4776cc58700", func := "loop.example/witan/laws.FnWorldCalm", spec := "fnWorldCalm", unfollowed := true, recurses := true, apart := false }
def FnWorldCalmSaid : Prop := fnWorldCalmRow.holds Tryz.pinned (OpenSpec.ofChange fnWorldCalmSpec)

/-- ITS FALSE NEIGHBOUR: 'it returns false'. Refute it at one input. -/
def fnWorldCalmWrong : ChangeSpec := { name := "fnWorldCalm", fn := fun _ => fun
  | [d] => { results := [.lit (.bool false)], args := [d] }
  | _ => none }
def FnWorldCalmWrongFalsely : Prop := fnWorldCalmRow.holds Tryz.pinned (OpenSpec.ofChange fnWorldCalmWrong)

/-- 'laws.FnWorldEqual': WHATEVER THE INPUT: true; the input reads as it did. -/
def fnWorldEqualSpec : ChangeSpec := { name := "fnWorldEqual", fn := fun _ => fun
  | [d] => { results := [.lit (.bool true)], args := [d] }
  | _ => none }
def fnWorldEqualRow : OpenClaim := { program := "ytompnmkpgffhkaagreat", sum := "859abb44f97cfd333594f0a3468236ef9169b36fa1e1726cd774e4776cc58700", func := "loop.example/witan/laws.FnWorldEqual", spec := "fnWorldEqual", unfollowed := true, recurses := true, apart := false }
def FnWorldEqualSaid : Prop := fnWorldEqualRow.holds Tryz.pinned (OpenSpec.ofChange fnWorldEqualSpec)

/-- ITS FALSE NEIGHBOUR: 'it returns false'. Refute it at one input. -/
def fnWorldEqualWrong : ChangeSpec := { name := "fnWorldEqual", fn := fun _ => fun
  | [d] => { results := [.lit (.bool false)], args := [d] }
  | _ => none }
def FnWorldEqualWrongFalsely : Prop := fnWorldEqualRow.holds Tryz.pinned (OpenSpec.ofChange fnWorldEqualWrong)

/-- 'laws.FnWorldHonest': WHATEVER THE INPUT: true; the input reads as it did. -/
def fnWorldHonestSpec : ChangeSpec := { name := "fnWorldHonest", fn := fun _ => fun
  | [d1, d2] => { results := [.lit (.bool true)], args := [d1, d2] }
  | _ => none }
def fnWorldHonestRow : OpenClaim := { program := "ytompnmkpgffhkaagreat", sum := "859abb44f97cfd333594f0a3468236ef9169b36fa1e1726cd774e4776cc58700", func := "loop.example/witan/laws.FnWorldHonest", spec := "fnWorldHonest", unfollowed := true, recurses := true, apart := false }
def FnWorldHonestSaid : Prop := fnWorldHonestRow.holds Tryz.pinned (OpenSpec.ofChange fnWorldHonestSpec)

/-- ITS FALSE NEIGHBOUR: 'it returns false'. Refute it at one input. -/
def fnWorldHonestWrong : ChangeSpec := { name := "fnWorldHonest", fn := fun _ => fun
  | [d1, d2] => { results := [.lit (.bool false)], args := [d1, d2] }
  | _ => none }
def FnWorldHonestWrongFalsely : Prop := fnWorldHonestRow.holds Tryz.pinned (OpenSpec.ofChange fnWorldHonestWrong)

/-- 'laws.FnWorldRounds': WHATEVER THE INPUT: true; the input reads as it did. -/
def fnWorldRoundsSpec : ChangeSpec := { name := "fnWorldRounds", fn := fun _ => fun
  | [d1, d2] => { results := [.lit (.bool true)], args := [d1, d2] }
  | _ => none }
def fnWorldRoundsRow : OpenClaim := { program := "ytompnmkpgffhkaagreat", sum := "859abb44f97cfd333594f0a3468236ef9169b36fa1e1726cd774e4776cc58700", func := "loop.example/witan/laws.FnWorldRounds", spec := "fnWorldRounds", unfollowed := true, recurses := true, apart := false }
def FnWorldRoundsSaid : Prop := fnWorldRoundsRow.holds Tryz.pinned (OpenSpec.ofChange fnWorldRoundsSpec)

/-- ITS FALSE NEIGHBOUR: 'it returns false'. Refute it at one input. -/
def fnWorldRoundsWrong : ChangeSpec := { name := "fnWorldRounds", fn := fun _ => fun
  | [d1, d2] => { results := [.lit (.bool false)], args := [d1, d2] }
  | _ => none }
def FnWorldRoundsWrongFalsely : Prop := fnWorldRoundsRow.holds Tryz.pinned (OpenSpec.ofChange fnWorldRoundsWrong)

/-- 'laws.FnWorldCert': WHATEVER THE INPUT: true; the input reads as it did. -/
def fnWorldCertSpec : ChangeSpec := { name := "fnWorldCert", fn := fun _ => fun
  | [d] => { results := [.lit (.bool true)], args := [d] }
  | _ => none }
def fnWorldCertRow : OpenClaim := { program := "ytompnmkpgffhkaagreat", sum := "859abb44f97cfd333594f0a3468236ef9169b36fa1e1726cd774e4776cc58700", func := "loop.example/witan/laws.FnWorldCert", spec := "fnWorldCert", unfollowed := true, recurses := true, apart := false }
def FnWorldCertSaid : Prop := fnWorldCertRow.holds Tryz.pinned (OpenSpec.ofChange fnWorldCertSpec)

/-- ITS FALSE NEIGHBOUR: 'it returns false'. Refute it at one input. -/
def fnWorldCertWrong : ChangeSpec := { name := "fnWorldCert", fn := fun _ => fun
  | [d] => { results := [.lit (.bool false)], args := [d] }
  | _ => none }
def FnWorldCertWrongFalsely : Prop := fnWorldCertRow.holds Tryz.pinned (OpenSpec.ofChange fnWorldCertWrong)

/- THE SECOND FORM. 'bulk': how many values and letters a reading holds, each counted each time it is reached (what is shared counts as often as it is met; a slice's spare places count too). A statement '..UptoSaid' is the law's where the arguments, and the package variables that the reading takes, are together of bulk at most 1048576: NARROWER than '..Said'. Prove '..Said' where nothing that the law and all that it calls make is longer than what came in: it says more and counts as full. Else prove '..UptoSaid'. A law counts once. -/
mutual
def uptoBulk {H : Type} : DataW H → Nat
  | .lit (.string bytes) => bytes.length + 1
  | .lit _ => 1
  | .nil => 1
  | .ptr d => uptoBulk d + 1
  | .slice elems spare => uptoBulkAll elems + uptoBulkAll spare + 1
  | .agg parts => uptoBulkAll parts + 1
  | .iface _ d => uptoBulk d + 1
  | .map entries => uptoBulkEntries entries + 1
  | .held _ => 1
def uptoBulkAll {H : Type} : List (DataW H) → Nat
  | [] => 0
  | d :: r => uptoBulk d + uptoBulkAll r
def uptoBulkEntries {H : Type} : List (Lit × DataW H) → Nat
  | [] => 0
  | x :: r => uptoBulkEntry x + uptoBulkEntries r
def uptoBulkEntry {H : Type} : Lit × DataW H → Nat
  | (.string bytes, d) => bytes.length + uptoBulk d + 1
  | (_, d) => uptoBulk d + 1
 end
def uptoSmall : (H : Type) → List (DataW H) → Bool := fun _ ds => decide (uptoBulkAll ds ≤ 1048576)
def OpenSpec.upto (s : _root_.Go.ChangeSpec) : _root_.Go.OpenSpec := { _root_.Go.OpenSpec.ofChange s with cond := some uptoSmall }

/-- 'laws.FnWorldAgree', WHERE WHAT IT READS IS OF BULK AT MOST 1048576: true; the input reads as it did. -/
def fnWorldAgreeUptoRow : OpenClaim := { program := "ytompnmkpgffhkaagreat", sum := "859abb44f97cfd333594f0a3468236ef9169b36fa1e1726cd774e4776cc58700", func := "loop.example/witan/laws.FnWorldAgree", spec := "fnWorldAgree", unfollowed := true, recurses := true, apart := false, narrowed := true }
def FnWorldAgreeUptoSaid : Prop := fnWorldAgreeUptoRow.holds Tryz.pinned (OpenSpec.upto fnWorldAgreeSpec)

/-- 'laws.FnWorldAll', WHERE WHAT IT READS IS OF BULK AT MOST 1048576: true; the input reads as it did. -/
def fnWorldAllUptoRow : OpenClaim := { program := "ytompnmkpgffhkaagreat", sum := "859abb44f97cfd333594f0a3468236ef9169b36fa1e1726cd774e4776cc58700", func := "loop.example/witan/laws.FnWorldAll", spec := "fnWorldAll", unfollowed := true, recurses := true, apart := false, narrowed := true }
def FnWorldAllUptoSaid : Prop := fnWorldAllUptoRow.holds Tryz.pinned (OpenSpec.upto fnWorldAllSpec)

/-- 'laws.FnWorldLate', WHERE WHAT IT READS IS OF BULK AT MOST 1048576: true; the input reads as it did. -/
def fnWorldLateUptoRow : OpenClaim := { program := "ytompnmkpgffhkaagreat", sum := "859abb44f97cfd333594f0a3468236ef9169b36fa1e1726cd774e4776cc58700", func := "loop.example/witan/laws.FnWorldLate", spec := "fnWorldLate", unfollowed := true, recurses := true, apart := false, narrowed := true }
def FnWorldLateUptoSaid : Prop := fnWorldLateUptoRow.holds Tryz.pinned (OpenSpec.upto fnWorldLateSpec)

/-- 'laws.FnWorldBooks', WHERE WHAT IT READS IS OF BULK AT MOST 1048576: true; the input reads as it did. -/
def fnWorldBooksUptoRow : OpenClaim := { program := "ytompnmkpgffhkaagreat", sum := "859abb44f97cfd333594f0a3468236ef9169b36fa1e1726cd774e4776cc58700", func := "loop.example/witan/laws.FnWorldBooks", spec := "fnWorldBooks", unfollowed := true, recurses := true, apart := false, narrowed := true }
def FnWorldBooksUptoSaid : Prop := fnWorldBooksUptoRow.holds Tryz.pinned (OpenSpec.upto fnWorldBooksSpec)

/-- 'laws.FnWorldMost', WHERE WHAT IT READS IS OF BULK AT MOST 1048576: true; the input reads as it did. -/
def fnWorldMostUptoRow : OpenClaim := { program := "ytompnmkpgffhkaagreat", sum := "859abb44f97cfd333594f0a3468236ef9169b36fa1e1726cd774e4776cc58700", func := "loop.example/witan/laws.FnWorldMost", spec := "fnWorldMost", unfollowed := true, recurses := true, apart := false, narrowed := true }
def FnWorldMostUptoSaid : Prop := fnWorldMostUptoRow.holds Tryz.pinned (OpenSpec.upto fnWorldMostSpec)

/-- 'laws.FnWorldShown', WHERE WHAT IT READS IS OF BULK AT MOST 1048576: true; the input reads as it did. -/
def fnWorldShownUptoRow : OpenClaim := { program := "ytompnmkpgffhkaagreat", sum := "859abb44f97cfd333594f0a3468236ef9169b36fa1e1726cd774e4776cc58700", func := "loop.example/witan/laws.FnWorldShown", spec := "fnWorldShown", unfollowed := true, recurses := true, apart := false, narrowed := true }
def FnWorldShownUptoSaid : Prop := fnWorldShownUptoRow.holds Tryz.pinned (OpenSpec.upto fnWorldShownSpec)

/-- 'laws.FnWorldCalm', WHERE WHAT IT READS IS OF BULK AT MOST 1048576: true; the input reads as it did. -/
def fnWorldCalmUptoRow : OpenClaim := { program := "ytompnmkpgffhkaagreat", sum := "859abb44f97cfd333594f0a3468236ef9169b36fa1e1726cd774e4776cc58700", func := "loop.example/witan/laws.FnWorldCalm", spec := "fnWorldCalm", unfollowed := true, recurses := true, apart := false, narrowed := true }
def FnWorldCalmUptoSaid : Prop := fnWorldCalmUptoRow.holds Tryz.pinned (OpenSpec.upto fnWorldCalmSpec)

/-- 'laws.FnWorldEqual', WHERE WHAT IT READS IS OF BULK AT MOST 1048576: true; the input reads as it did. -/
def fnWorldEqualUptoRow : OpenClaim := { program := "ytompnmkpgffhkaagreat", sum := "859abb44f97cfd333594f0a3468236ef9169b36fa1e1726cd774e4776cc58700", func := "loop.example/witan/laws.FnWorldEqual", spec := "fnWorldEqual", unfollowed := true, recurses := true, apart := false, narrowed := true }
def FnWorldEqualUptoSaid : Prop := fnWorldEqualUptoRow.holds Tryz.pinned (OpenSpec.upto fnWorldEqualSpec)

/-- 'laws.FnWorldHonest', WHERE WHAT IT READS IS OF BULK AT MOST 1048576: true; the input reads as it did. -/
def fnWorldHonestUptoRow : OpenClaim := { program := "ytompnmkpgffhkaagreat", sum := "859abb44f97cfd333594f0a3468236ef9169b36fa1e1726cd774e4776cc58700", func := "loop.example/witan/laws.FnWorldHonest", spec := "fnWorldHonest", unfollowed := true, recurses := true, apart := false, narrowed := true }
def FnWorldHonestUptoSaid : Prop := fnWorldHonestUptoRow.holds Tryz.pinned (OpenSpec.upto fnWorldHonestSpec)

/-- 'laws.FnWorldRounds', WHERE WHAT IT READS IS OF BULK AT MOST 1048576: true; the input reads as it did. -/
def fnWorldRoundsUptoRow : OpenClaim := { program := "ytompnmkpgffhkaagreat", sum := "859abb44f97cfd333594f0a3468236ef9169b36fa1e1726cd774e4776cc58700", func := "loop.example/witan/laws.FnWorldRounds", spec := "fnWorldRounds", unfollowed := true, recurses := true, apart := false, narrowed := true }
def FnWorldRoundsUptoSaid : Prop := fnWorldRoundsUptoRow.holds Tryz.pinned (OpenSpec.upto fnWorldRoundsSpec)

/-- 'laws.FnWorldCert', WHERE WHAT IT READS IS OF BULK AT MOST 1048576: true; the input reads as it did. -/
def fnWorldCertUptoRow : OpenClaim := { program := "ytompnmkpgffhkaagreat", sum := "859abb44f97cfd333594f0a3468236ef9169b36fa1e1726cd774e4776cc58700", func := "loop.example/witan/laws.FnWorldCert", spec := "fnWorldCert", unfollowed := true, recurses := true, apart := false, narrowed := true }
def FnWorldCertUptoSaid : Prop := fnWorldCertUptoRow.holds Tryz.pinned (OpenSpec.upto fnWorldCertSpec)

end Rows
end Go.Proofs.YtompnmkpgffhkaaGreat
