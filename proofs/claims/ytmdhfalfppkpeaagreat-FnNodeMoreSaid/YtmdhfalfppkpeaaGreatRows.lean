/-
  No cell of these rows narrows 'for every input' (looked for: loops, veiled, ifaces, maps, wideKeys, modest, calm, conditions, laid).
  DERIVED. THE GIVEN ROWS OF THIS SEAT. 12 by the template 'for every input the law returns true; each argument reads behind the call as it read before'; 0 by the template 'total and deterministic' (their statements: YtmdhfalfppkpeaaGreatTotals.lean).
  GIVEN WITH THE SEED: the statements are not yours to turn. If you find one false, say at which input.
  Laid BY PROGRAM, IN A SANDBOX (cutbox-rows.mjs): the forced cells as the released guide's own fill.sh prints them over the translation a687888d94c15cdf… (all of the seat's roots in one cut). By AI agents, Wed Nov 11 2026. No macro, syntax, notation, axiom, sorry.
-/
import Derived.Test.YtmdhfalfppkpeaaGreatChecked
import GoSem.Claim
import GoSem.ClaimJoined
import GoSem.ClaimMapViews
import Derived.JoinedTies
import Derived.KernelRfl
namespace Go.Proofs.YtmdhfalfppkpeaaGreat
/- THE CELL 'sum', in the pinned program and in every row, IS THE sha256 OF THE DUMP (.gsa) THAT YtmdhfalfppkpeaaGreatProg.lean LOADS. Nothing in Lean hashes anything: it is a label: what it is worth is what the hold of that sum in a sandbox is worth. -/
noncomputable def Tryz.pinned : Pinned := { name := "ytmdhfalfppkpeaagreat", sum := "a687888d94c15cdf240a92ab17311cf7ea0e90dacd8096624941453ad85829ba", checked := Tryz.checked }
namespace Rows
def none {H : Type} : Left H := { results := [], args := [] }

/-- 'laws.FnWorldMost': WHATEVER THE INPUT: true; the input reads as it did. -/
def fnWorldMostSpec : ChangeSpec := { name := "fnWorldMost", fn := fun _ => fun
  | [d] => { results := [.lit (.bool true)], args := [d] }
  | _ => none }
def fnWorldMostRow : OpenClaim := { program := "ytmdhfalfppkpeaagreat", sum := "a687888d94c15cdf240a92ab17311cf7ea0e90dacd8096624941453ad85829ba", func := "loop.example/witan/laws.FnWorldMost", spec := "fnWorldMost", unfollowed := true, recurses := true, apart := false }
def FnWorldMostSaid : Prop := fnWorldMostRow.holds Tryz.pinned (OpenSpec.ofChange fnWorldMostSpec)

/-- ITS FALSE NEIGHBOUR: 'it returns false'. Refute it at one input. -/
def fnWorldMostWrong : ChangeSpec := { name := "fnWorldMost", fn := fun _ => fun
  | [d] => { results := [.lit (.bool false)], args := [d] }
  | _ => none }
def FnWorldMostWrongFalsely : Prop := fnWorldMostRow.holds Tryz.pinned (OpenSpec.ofChange fnWorldMostWrong)

/-- 'laws.FnWorldShown': WHATEVER THE INPUT: true; the input reads as it did. -/
def fnWorldShownSpec : ChangeSpec := { name := "fnWorldShown", fn := fun _ => fun
  | [d1, d2] => { results := [.lit (.bool true)], args := [d1, d2] }
  | _ => none }
def fnWorldShownRow : OpenClaim := { program := "ytmdhfalfppkpeaagreat", sum := "a687888d94c15cdf240a92ab17311cf7ea0e90dacd8096624941453ad85829ba", func := "loop.example/witan/laws.FnWorldShown", spec := "fnWorldShown", unfollowed := true, recurses := true, apart := false }
def FnWorldShownSaid : Prop := fnWorldShownRow.holds Tryz.pinned (OpenSpec.ofChange fnWorldShownSpec)

/-- ITS FALSE NEIGHBOUR: 'it returns false'. Refute it at one input. -/
def fnWorldShownWrong : ChangeSpec := { name := "fnWorldShown", fn := fun _ => fun
  | [d1, d2] => { results := [.lit (.bool false)], args := [d1, d2] }
  | _ => none }
def FnWorldShownWrongFalsely : Prop := fnWorldShownRow.holds Tryz.pinned (OpenSpec.ofChange fnWorldShownWrong)

/-- 'laws.FnWorldRounds': WHATEVER THE INPUT: true; the input reads as it did. -/
def fnWorldRoundsSpec : ChangeSpec := { name := "fnWorldRounds", fn := fun _ => fun
  | [d1, d2] => { results := [.lit (.bool true)], args := [d1, d2] }
  | _ => none }
def fnWorldRoundsRow : OpenClaim := { program := "ytmdhfalfppkpeaagreat", sum := "a687888d94c15cdf240a92ab17311cf7ea0e90dacd8096624941453ad85829ba", func := "loop.example/witan/laws.FnWorldRounds", spec := "fnWorldRounds", unfollowed := true, recurses := true, apart := false }
def FnWorldRoundsSaid : Prop := fnWorldRoundsRow.holds Tryz.pinned (OpenSpec.ofChange fnWorldRoundsSpec)

/-- ITS FALSE NEIGHBOUR: 'it returns false'. Refute it at one input. -/
def fnWorldRoundsWrong : ChangeSpec := { name := "fnWorldRounds", fn := fun _ => fun
  | [d1, d2] => { results := [.lit (.bool false)], args := [d1, d2] }
  | _ => none }
def FnWorldRoundsWrongFalsely : Prop := fnWorldRoundsRow.holds Tryz.pinned (OpenSpec.ofChange fnWorldRoundsWrong)

/-- 'laws.FnWorldHonest': WHATEVER THE INPUT: true; the input reads as it did. -/
def fnWorldHonestSpec : ChangeSpec := { name := "fnWorldHonest", fn := fun _ => fun
  | [d1, d2] => { results := [.lit (.bool true)], args := [d1, d2] }
  | _ => none }
def fnWorldHonestRow : OpenClaim := { program := "ytmdhfalfppkpeaagreat", sum := "a687888d94c15cdf240a92ab17311cf7ea0e90dacd8096624941453ad85829ba", func := "loop.example/witan/laws.FnWorldHonest", spec := "fnWorldHonest", unfollowed := true, recurses := true, apart := false }
def FnWorldHonestSaid : Prop := fnWorldHonestRow.holds Tryz.pinned (OpenSpec.ofChange fnWorldHonestSpec)

/-- ITS FALSE NEIGHBOUR: 'it returns false'. Refute it at one input. -/
def fnWorldHonestWrong : ChangeSpec := { name := "fnWorldHonest", fn := fun _ => fun
  | [d1, d2] => { results := [.lit (.bool false)], args := [d1, d2] }
  | _ => none }
def FnWorldHonestWrongFalsely : Prop := fnWorldHonestRow.holds Tryz.pinned (OpenSpec.ofChange fnWorldHonestWrong)

/-- 'laws.FnWorldCert': WHATEVER THE INPUT: true; the input reads as it did. -/
def fnWorldCertSpec : ChangeSpec := { name := "fnWorldCert", fn := fun _ => fun
  | [d] => { results := [.lit (.bool true)], args := [d] }
  | _ => none }
def fnWorldCertRow : OpenClaim := { program := "ytmdhfalfppkpeaagreat", sum := "a687888d94c15cdf240a92ab17311cf7ea0e90dacd8096624941453ad85829ba", func := "loop.example/witan/laws.FnWorldCert", spec := "fnWorldCert", unfollowed := true, recurses := true, apart := false }
def FnWorldCertSaid : Prop := fnWorldCertRow.holds Tryz.pinned (OpenSpec.ofChange fnWorldCertSpec)

/-- ITS FALSE NEIGHBOUR: 'it returns false'. Refute it at one input. -/
def fnWorldCertWrong : ChangeSpec := { name := "fnWorldCert", fn := fun _ => fun
  | [d] => { results := [.lit (.bool false)], args := [d] }
  | _ => none }
def FnWorldCertWrongFalsely : Prop := fnWorldCertRow.holds Tryz.pinned (OpenSpec.ofChange fnWorldCertWrong)

/-- 'laws.FnNodeMore': WHATEVER THE INPUT: true; the input reads as it did. -/
def fnNodeMoreSpec : ChangeSpec := { name := "fnNodeMore", fn := fun _ => fun
  | [d] => { results := [.lit (.bool true)], args := [d] }
  | _ => none }
def fnNodeMoreRow : OpenClaim := { program := "ytmdhfalfppkpeaagreat", sum := "a687888d94c15cdf240a92ab17311cf7ea0e90dacd8096624941453ad85829ba", func := "loop.example/witan/laws.FnNodeMore", spec := "fnNodeMore", unfollowed := true, recurses := true, apart := false }
def FnNodeMoreSaid : Prop := fnNodeMoreRow.holds Tryz.pinned (OpenSpec.ofChange fnNodeMoreSpec)

/-- ITS FALSE NEIGHBOUR: 'it returns false'. Refute it at one input. -/
def fnNodeMoreWrong : ChangeSpec := { name := "fnNodeMore", fn := fun _ => fun
  | [d] => { results := [.lit (.bool false)], args := [d] }
  | _ => none }
def FnNodeMoreWrongFalsely : Prop := fnNodeMoreRow.holds Tryz.pinned (OpenSpec.ofChange fnNodeMoreWrong)

/-- 'laws.FnWorldApart': WHATEVER THE INPUT: true; the input reads as it did. -/
def fnWorldApartSpec : ChangeSpec := { name := "fnWorldApart", fn := fun _ => fun
  | [d] => { results := [.lit (.bool true)], args := [d] }
  | _ => none }
def fnWorldApartRow : OpenClaim := { program := "ytmdhfalfppkpeaagreat", sum := "a687888d94c15cdf240a92ab17311cf7ea0e90dacd8096624941453ad85829ba", func := "loop.example/witan/laws.FnWorldApart", spec := "fnWorldApart", unfollowed := true, recurses := true, apart := false }
def FnWorldApartSaid : Prop := fnWorldApartRow.holds Tryz.pinned (OpenSpec.ofChange fnWorldApartSpec)

/-- ITS FALSE NEIGHBOUR: 'it returns false'. Refute it at one input. -/
def fnWorldApartWrong : ChangeSpec := { name := "fnWorldApart", fn := fun _ => fun
  | [d] => { results := [.lit (.bool false)], args := [d] }
  | _ => none }
def FnWorldApartWrongFalsely : Prop := fnWorldApartRow.holds Tryz.pinned (OpenSpec.ofChange fnWorldApartWrong)

/-- 'laws.FnWorldDo': WHATEVER THE INPUT: true; the input reads as it did. -/
def fnWorldDoSpec : ChangeSpec := { name := "fnWorldDo", fn := fun _ => fun
  | [d] => { results := [.lit (.bool true)], args := [d] }
  | _ => none }
def fnWorldDoRow : OpenClaim := { program := "ytmdhfalfppkpeaagreat", sum := "a687888d94c15cdf240a92ab17311cf7ea0e90dacd8096624941453ad85829ba", func := "loop.example/witan/laws.FnWorldDo", spec := "fnWorldDo", unfollowed := true, recurses := true, apart := false }
def FnWorldDoSaid : Prop := fnWorldDoRow.holds Tryz.pinned (OpenSpec.ofChange fnWorldDoSpec)

/-- ITS FALSE NEIGHBOUR: 'it returns false'. Refute it at one input. -/
def fnWorldDoWrong : ChangeSpec := { name := "fnWorldDo", fn := fun _ => fun
  | [d] => { results := [.lit (.bool false)], args := [d] }
  | _ => none }
def FnWorldDoWrongFalsely : Prop := fnWorldDoRow.holds Tryz.pinned (OpenSpec.ofChange fnWorldDoWrong)

/-- 'laws.FnWorldIdle': WHATEVER THE INPUT: true; the input reads as it did. -/
def fnWorldIdleSpec : ChangeSpec := { name := "fnWorldIdle", fn := fun _ => fun
  | [d] => { results := [.lit (.bool true)], args := [d] }
  | _ => none }
def fnWorldIdleRow : OpenClaim := { program := "ytmdhfalfppkpeaagreat", sum := "a687888d94c15cdf240a92ab17311cf7ea0e90dacd8096624941453ad85829ba", func := "loop.example/witan/laws.FnWorldIdle", spec := "fnWorldIdle", unfollowed := true, recurses := true, apart := false }
def FnWorldIdleSaid : Prop := fnWorldIdleRow.holds Tryz.pinned (OpenSpec.ofChange fnWorldIdleSpec)

/-- ITS FALSE NEIGHBOUR: 'it returns false'. Refute it at one input. -/
def fnWorldIdleWrong : ChangeSpec := { name := "fnWorldIdle", fn := fun _ => fun
  | [d] => { results := [.lit (.bool false)], args := [d] }
  | _ => none }
def FnWorldIdleWrongFalsely : Prop := fnWorldIdleRow.holds Tryz.pinned (OpenSpec.ofChange fnWorldIdleWrong)

/-- 'laws.FnWorldTwice': WHATEVER THE INPUT: true; the input reads as it did. -/
def fnWorldTwiceSpec : ChangeSpec := { name := "fnWorldTwice", fn := fun _ => fun
  | [d1, d2] => { results := [.lit (.bool true)], args := [d1, d2] }
  | _ => none }
def fnWorldTwiceRow : OpenClaim := { program := "ytmdhfalfppkpeaagreat", sum := "a687888d94c15cdf240a92ab17311cf7ea0e90dacd8096624941453ad85829ba", func := "loop.example/witan/laws.FnWorldTwice", spec := "fnWorldTwice", unfollowed := true, recurses := true, apart := false }
def FnWorldTwiceSaid : Prop := fnWorldTwiceRow.holds Tryz.pinned (OpenSpec.ofChange fnWorldTwiceSpec)

/-- ITS FALSE NEIGHBOUR: 'it returns false'. Refute it at one input. -/
def fnWorldTwiceWrong : ChangeSpec := { name := "fnWorldTwice", fn := fun _ => fun
  | [d1, d2] => { results := [.lit (.bool false)], args := [d1, d2] }
  | _ => none }
def FnWorldTwiceWrongFalsely : Prop := fnWorldTwiceRow.holds Tryz.pinned (OpenSpec.ofChange fnWorldTwiceWrong)

/-- 'laws.FnWorldTick': WHATEVER THE INPUT: true; the input reads as it did. -/
def fnWorldTickSpec : ChangeSpec := { name := "fnWorldTick", fn := fun _ => fun
  | [d] => { results := [.lit (.bool true)], args := [d] }
  | _ => none }
def fnWorldTickRow : OpenClaim := { program := "ytmdhfalfppkpeaagreat", sum := "a687888d94c15cdf240a92ab17311cf7ea0e90dacd8096624941453ad85829ba", func := "loop.example/witan/laws.FnWorldTick", spec := "fnWorldTick", unfollowed := true, recurses := true, apart := false }
def FnWorldTickSaid : Prop := fnWorldTickRow.holds Tryz.pinned (OpenSpec.ofChange fnWorldTickSpec)

/-- ITS FALSE NEIGHBOUR: 'it returns false'. Refute it at one input. -/
def fnWorldTickWrong : ChangeSpec := { name := "fnWorldTick", fn := fun _ => fun
  | [d] => { results := [.lit (.bool false)], args := [d] }
  | _ => none }
def FnWorldTickWrongFalsely : Prop := fnWorldTickRow.holds Tryz.pinned (OpenSpec.ofChange fnWorldTickWrong)

/-- 'laws.FnWorldForge': WHATEVER THE INPUT: true; the input reads as it did. -/
def fnWorldForgeSpec : ChangeSpec := { name := "fnWorldForge", fn := fun _ => fun
  | [d1, d2] => { results := [.lit (.bool true)], args := [d1, d2] }
  | _ => none }
def fnWorldForgeRow : OpenClaim := { program := "ytmdhfalfppkpeaagreat", sum := "a687888d94c15cdf240a92ab17311cf7ea0e90dacd8096624941453ad85829ba", func := "loop.example/witan/laws.FnWorldForge", spec := "fnWorldForge", unfollowed := true, recurses := true, apart := false }
def FnWorldForgeSaid : Prop := fnWorldForgeRow.holds Tryz.pinned (OpenSpec.ofChange fnWorldForgeSpec)

/-- ITS FALSE NEIGHBOUR: 'it returns false'. Refute it at one input. -/
def fnWorldForgeWrong : ChangeSpec := { name := "fnWorldForge", fn := fun _ => fun
  | [d1, d2] => { results := [.lit (.bool false)], args := [d1, d2] }
  | _ => none }
def FnWorldForgeWrongFalsely : Prop := fnWorldForgeRow.holds Tryz.pinned (OpenSpec.ofChange fnWorldForgeWrong)

/- THE SECOND FORM. 'bulk': how many values and letters a reading holds, each counted each time it is reached (what is shared counts as often as it is met; a slice's spare places count too). A statement '..UptoSaid' is the law's where the arguments, and the package variables that the reading takes, are together of bulk at most 1048576: NARROWER than '..Said'. Prove '..Said' where nothing that the law and all that it calls make is longer than what came in: it says more and counts as full. Else prove '..UptoSaid'. A law counts once. -/
mutual
def uptoBulk {H : Type} : DataW H → Nat
  | .lit (.string bytes) => bytes.length + 1
  | .lit _ => 1
  | .nil => 1
  | .ptr d => uptoBulk d + 1
  | .slice elems spare => uptoBulkAll elems + uptoBulkAll spare + 1
  | .agg parts => uptoBulkAll parts + 1
  | .iface _ d => uptoBulk d + 1
  | .map entries => uptoBulkEntries entries + 1
  | .held _ => 1
def uptoBulkAll {H : Type} : List (DataW H) → Nat
  | [] => 0
  | d :: r => uptoBulk d + uptoBulkAll r
def uptoBulkEntries {H : Type} : List (Lit × DataW H) → Nat
  | [] => 0
  | x :: r => uptoBulkEntry x + uptoBulkEntries r
def uptoBulkEntry {H : Type} : Lit × DataW H → Nat
  | (.string bytes, d) => bytes.length + uptoBulk d + 1
  | (_, d) => uptoBulk d + 1
 end
def uptoSmall : (H : Type) → List (DataW H) → Bool := fun _ ds => decide (uptoBulkAll ds ≤ 1048576)
def OpenSpec.upto (s : _root_.Go.ChangeSpec) : _root_.Go.OpenSpec := { _root_.Go.OpenSpec.ofChange s with cond := some uptoSmall }

/-- 'laws.FnWorldMost', WHERE WHAT IT READS IS OF BULK AT MOST 1048576: true; the input reads as it did. -/
def fnWorldMostUptoRow : OpenClaim := { program := "ytmdhfalfppkpeaagreat", sum := "a687888d94c15cdf240a92ab17311cf7ea0e90dacd8096624941453ad85829ba", func := "loop.example/witan/laws.FnWorldMost", spec := "fnWorldMost", unfollowed := true, recurses := true, apart := false, narrowed := true }
def FnWorldMostUptoSaid : Prop := fnWorldMostUptoRow.holds Tryz.pinned (OpenSpec.upto fnWorldMostSpec)

/-- 'laws.FnWorldShown', WHERE WHAT IT READS IS OF BULK AT MOST 1048576: true; the input reads as it did. -/
def fnWorldShownUptoRow : OpenClaim := { program := "ytmdhfalfppkpeaagreat", sum := "a687888d94c15cdf240a92ab17311cf7ea0e90dacd8096624941453ad85829ba", func := "loop.example/witan/laws.FnWorldShown", spec := "fnWorldShown", unfollowed := true, recurses := true, apart := false, narrowed := true }
def FnWorldShownUptoSaid : Prop := fnWorldShownUptoRow.holds Tryz.pinned (OpenSpec.upto fnWorldShownSpec)

/-- 'laws.FnWorldRounds', WHERE WHAT IT READS IS OF BULK AT MOST 1048576: true; the input reads as it did. -/
def fnWorldRoundsUptoRow : OpenClaim := { program := "ytmdhfalfppkpeaagreat", sum := "a687888d94c15cdf240a92ab17311cf7ea0e90dacd8096624941453ad85829ba", func := "loop.example/witan/laws.FnWorldRounds", spec := "fnWorldRounds", unfollowed := true, recurses := true, apart := false, narrowed := true }
def FnWorldRoundsUptoSaid : Prop := fnWorldRoundsUptoRow.holds Tryz.pinned (OpenSpec.upto fnWorldRoundsSpec)

/-- 'laws.FnWorldHonest', WHERE WHAT IT READS IS OF BULK AT MOST 1048576: true; the input reads as it did. -/
def fnWorldHonestUptoRow : OpenClaim := { program := "ytmdhfalfppkpeaagreat", sum := "a687888d94c15cdf240a92ab17311cf7ea0e90dacd8096624941453ad85829ba", func := "loop.example/witan/laws.FnWorldHonest", spec := "fnWorldHonest", unfollowed := true, recurses := true, apart := false, narrowed := true }
def FnWorldHonestUptoSaid : Prop := fnWorldHonestUptoRow.holds Tryz.pinned (OpenSpec.upto fnWorldHonestSpec)

/-- 'laws.FnWorldCert', WHERE WHAT IT READS IS OF BULK AT MOST 1048576: true; the input reads as it did. -/
def fnWorldCertUptoRow : OpenClaim := { program := "ytmdhfalfppkpeaagreat", sum := "a687888d94c15cdf240a92ab17311cf7ea0e90dacd8096624941453ad85829ba", func := "loop.example/witan/laws.FnWorldCert", spec := "fnWorldCert", unfollowed := true, recurses := true, apart := false, narrowed := true }
def FnWorldCertUptoSaid : Prop := fnWorldCertUptoRow.holds Tryz.pinned (OpenSpec.upto fnWorldCertSpec)

/-- 'laws.FnNodeMore', WHERE WHAT IT READS IS OF BULK AT MOST 1048576: true; the input reads as it did. -/
def fnNodeMoreUptoRow : OpenClaim := { program := "ytmdhfalfppkpeaagreat", sum := "a687888d94c15cdf240a92ab17311cf7ea0e90dacd8096624941453ad85829ba", func := "loop.example/witan/laws.FnNodeMore", spec := "fnNodeMore", unfollowed := true, recurses := true, apart := false, narrowed := true }
def FnNodeMoreUptoSaid : Prop := fnNodeMoreUptoRow.holds Tryz.pinned (OpenSpec.upto fnNodeMoreSpec)

/-- 'laws.FnWorldApart', WHERE WHAT IT READS IS OF BULK AT MOST 1048576: true; the input reads as it did. -/
def fnWorldApartUptoRow : OpenClaim := { program := "ytmdhfalfppkpeaagreat", sum := "a687888d94c15cdf240a92ab17311cf7ea0e90dacd8096624941453ad85829ba", func := "loop.example/witan/laws.FnWorldApart", spec := "fnWorldApart", unfollowed := true, recurses := true, apart := false, narrowed := true }
def FnWorldApartUptoSaid : Prop := fnWorldApartUptoRow.holds Tryz.pinned (OpenSpec.upto fnWorldApartSpec)

/-- 'laws.FnWorldDo', WHERE WHAT IT READS IS OF BULK AT MOST 1048576: true; the input reads as it did. -/
def fnWorldDoUptoRow : OpenClaim := { program := "ytmdhfalfppkpeaagreat", sum := "a687888d94c15cdf240a92ab17311cf7ea0e90dacd8096624941453ad85829ba", func := "loop.example/witan/laws.FnWorldDo", spec := "fnWorldDo", unfollowed := true, recurses := true, apart := false, narrowed := true }
def FnWorldDoUptoSaid : Prop := fnWorldDoUptoRow.holds Tryz.pinned (OpenSpec.upto fnWorldDoSpec)

/-- 'laws.FnWorldIdle', WHERE WHAT IT READS IS OF BULK AT MOST 1048576: true; the input reads as it did. -/
def fnWorldIdleUptoRow : OpenClaim := { program := "ytmdhfalfppkpeaagreat", sum := "a687888d94c15cdf240a92ab17311cf7ea0e90dacd8096624941453ad85829ba", func := "loop.example/witan/laws.FnWorldIdle", spec := "fnWorldIdle", unfollowed := true, recurses := true, apart := false, narrowed := true }
def FnWorldIdleUptoSaid : Prop := fnWorldIdleUptoRow.holds Tryz.pinned (OpenSpec.upto fnWorldIdleSpec)

/-- 'laws.FnWorldTwice', WHERE WHAT IT READS IS OF BULK AT MOST 1048576: true; the input reads as it did. -/
def fnWorldTwiceUptoRow : OpenClaim := { program := "ytmdhfalfppkpeaagreat", sum := "a687888d94c15cdf240a92ab17311cf7ea0e90dacd8096624941453ad85829ba", func := "loop.example/witan/laws.FnWorldTwice", spec := "fnWorldTwice", unfollowed := true, recurses := true, apart := false, narrowed := true }
def FnWorldTwiceUptoSaid : Prop := fnWorldTwiceUptoRow.holds Tryz.pinned (OpenSpec.upto fnWorldTwiceSpec)

/-- 'laws.FnWorldTick', WHERE WHAT IT READS IS OF BULK AT MOST 1048576: true; the input reads as it did. -/
def fnWorldTickUptoRow : OpenClaim := { program := "ytmdhfalfppkpeaagreat", sum := "a687888d94c15cdf240a92ab17311cf7ea0e90dacd8096624941453ad85829ba", func := "loop.example/witan/laws.FnWorldTick", spec := "fnWorldTick", unfollowed := true, recurses := true, apart := false, narrowed := true }
def FnWorldTickUptoSaid : Prop := fnWorldTickUptoRow.holds Tryz.pinned (OpenSpec.upto fnWorldTickSpec)

/-- 'laws.FnWorldForge', WHERE WHAT IT READS IS OF BULK AT MOST 1048576: true; the input reads as it did. -/
def fnWorldForgeUptoRow : OpenClaim := { program := "ytmdhfalfppkpeaagreat", sum := "a687888d94c15cdf240a92ab17311cf7ea0e90dacd8096624941453ad85829ba", func := "loop.example/witan/laws.FnWorldForge", spec := "fnWorldForge", unfollowed := true, recurses := true, apart := false, narrowed := true }
def FnWorldForgeUptoSaid : Prop := fnWorldForgeUptoRow.holds Tryz.pinned (OpenSpec.upto fnWorldForgeSpec)

end Rows
end Go.Proofs.YtmdhfalfppkpeaaGreat
