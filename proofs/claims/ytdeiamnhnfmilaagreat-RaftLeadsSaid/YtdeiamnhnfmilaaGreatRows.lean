/-
  No cell of these rows narrows 'for every input' (looked for: loops, veiled, ifaces, maps, wideKeys, modest, calm, conditions, laid).
  DERIVED. THE GIVEN ROWS OF THIS SEAT. 6 by the template 'for every input the law returns true; each argument reads behind the call as it read before'; 0 by the template 'total and deterministic' (their statements: YtdeiamnhnfmilaaGreatTotals.lean).
  GIVEN WITH THE SEED: the statements are not yours to turn. If you find one false, say at which input.
  Laid BY PROGRAM, IN A SANDBOX (cutbox-rows.mjs): the forced cells as the released guide's own fill.sh prints them over the translation cbd842e63ce5326f… (all of the seat's roots in one cut). By AI agents, Wed Nov 11 2026. No macro, syntax, notation, axiom, sorry.
-/
import Derived.Test.YtdeiamnhnfmilaaGreatChecked
import GoSem.Claim
import GoSem.ClaimJoined
import GoSem.ClaimMapViews
import Derived.JoinedTies
import Derived.KernelRfl
namespace Go.Proofs.YtdeiamnhnfmilaaGreat
/- THE CELL 'sum', in the pinned program and in every row, IS THE sha256 OF THE DUMP (.gsa) THAT YtdeiamnhnfmilaaGreatProg.lean LOADS. Nothing in Lean hashes anything: it is a label: what it is worth is what the hold of that sum in a sandbox is worth. -/
noncomputable def Tryz.pinned : Pinned := { name := "ytdeiamnhnfmilaagreat", sum := "cbd842e63ce5326f88e08eedfc0e8ecde453882dc33e3f44cb9cf04e6dfaa425", checked := Tryz.checked }
namespace Rows
def none {H : Type} : Left H := { results := [], args := [] }

/-- 'glebelaw17.RaftKnown': WHATEVER THE INPUT: true; the input reads as it did. -/
def raftKnownSpec : ChangeSpec := { name := "raftKnown", fn := fun _ => fun
  | [] => { results := [.lit (.bool true)], args := [] }
  | _ => none }
def raftKnownRow : OpenClaim := { program := "ytdeiamnhnfmilaagreat", sum := "cbd842e63ce5326f88e08eedfc0e8ecde453882dc33e3f44cb9cf04e6dfaa425", func := "glebe/glebelaw17.RaftKnown", spec := "raftKnown", unfollowed := true, recurses := true, apart := false }
def RaftKnownSaid : Prop := raftKnownRow.holds Tryz.pinned (OpenSpec.ofChange raftKnownSpec)

/-- ITS FALSE NEIGHBOUR: 'it returns false'. Refute it at one input. -/
def raftKnownWrong : ChangeSpec := { name := "raftKnown", fn := fun _ => fun
  | [] => { results := [.lit (.bool false)], args := [] }
  | _ => none }
def RaftKnownWrongFalsely : Prop := raftKnownRow.holds Tryz.pinned (OpenSpec.ofChange raftKnownWrong)

/-- 'glebelaw17.RaftPlays': WHATEVER THE INPUT: true; the input reads as it did. -/
def raftPlaysSpec : ChangeSpec := { name := "raftPlays", fn := fun _ => fun
  | [d1, d2, d3] => { results := [.lit (.bool true)], args := [d1, d2, d3] }
  | _ => none }
def raftPlaysRow : OpenClaim := { program := "ytdeiamnhnfmilaagreat", sum := "cbd842e63ce5326f88e08eedfc0e8ecde453882dc33e3f44cb9cf04e6dfaa425", func := "glebe/glebelaw17.RaftPlays", spec := "raftPlays", unfollowed := true, recurses := true, apart := false }
def RaftPlaysSaid : Prop := raftPlaysRow.holds Tryz.pinned (OpenSpec.ofChange raftPlaysSpec)

/-- ITS FALSE NEIGHBOUR: 'it returns false'. Refute it at one input. -/
def raftPlaysWrong : ChangeSpec := { name := "raftPlays", fn := fun _ => fun
  | [d1, d2, d3] => { results := [.lit (.bool false)], args := [d1, d2, d3] }
  | _ => none }
def RaftPlaysWrongFalsely : Prop := raftPlaysRow.holds Tryz.pinned (OpenSpec.ofChange raftPlaysWrong)

/-- 'glebelaw17.RaftVotes': WHATEVER THE INPUT: true; the input reads as it did. -/
def raftVotesSpec : ChangeSpec := { name := "raftVotes", fn := fun _ => fun
  | [d1, d2] => { results := [.lit (.bool true)], args := [d1, d2] }
  | _ => none }
def raftVotesRow : OpenClaim := { program := "ytdeiamnhnfmilaagreat", sum := "cbd842e63ce5326f88e08eedfc0e8ecde453882dc33e3f44cb9cf04e6dfaa425", func := "glebe/glebelaw17.RaftVotes", spec := "raftVotes", unfollowed := true, recurses := true, apart := false }
def RaftVotesSaid : Prop := raftVotesRow.holds Tryz.pinned (OpenSpec.ofChange raftVotesSpec)

/-- ITS FALSE NEIGHBOUR: 'it returns false'. Refute it at one input. -/
def raftVotesWrong : ChangeSpec := { name := "raftVotes", fn := fun _ => fun
  | [d1, d2] => { results := [.lit (.bool false)], args := [d1, d2] }
  | _ => none }
def RaftVotesWrongFalsely : Prop := raftVotesRow.holds Tryz.pinned (OpenSpec.ofChange raftVotesWrong)

/-- 'glebelaw17.RaftSafe': WHATEVER THE INPUT: true; the input reads as it did. -/
def raftSafeSpec : ChangeSpec := { name := "raftSafe", fn := fun _ => fun
  | [d1, d2] => { results := [.lit (.bool true)], args := [d1, d2] }
  | _ => none }
def raftSafeRow : OpenClaim := { program := "ytdeiamnhnfmilaagreat", sum := "cbd842e63ce5326f88e08eedfc0e8ecde453882dc33e3f44cb9cf04e6dfaa425", func := "glebe/glebelaw17.RaftSafe", spec := "raftSafe", unfollowed := true, recurses := true, apart := false }
def RaftSafeSaid : Prop := raftSafeRow.holds Tryz.pinned (OpenSpec.ofChange raftSafeSpec)

/-- ITS FALSE NEIGHBOUR: 'it returns false'. Refute it at one input. -/
def raftSafeWrong : ChangeSpec := { name := "raftSafe", fn := fun _ => fun
  | [d1, d2] => { results := [.lit (.bool false)], args := [d1, d2] }
  | _ => none }
def RaftSafeWrongFalsely : Prop := raftSafeRow.holds Tryz.pinned (OpenSpec.ofChange raftSafeWrong)

/-- 'glebelaw17.RaftLeads': WHATEVER THE INPUT: true; the input reads as it did. -/
def raftLeadsSpec : ChangeSpec := { name := "raftLeads", fn := fun _ => fun
  | [d] => { results := [.lit (.bool true)], args := [d] }
  | _ => none }
def raftLeadsRow : OpenClaim := { program := "ytdeiamnhnfmilaagreat", sum := "cbd842e63ce5326f88e08eedfc0e8ecde453882dc33e3f44cb9cf04e6dfaa425", func := "glebe/glebelaw17.RaftLeads", spec := "raftLeads", unfollowed := true, recurses := true, apart := false }
def RaftLeadsSaid : Prop := raftLeadsRow.holds Tryz.pinned (OpenSpec.ofChange raftLeadsSpec)

/-- ITS FALSE NEIGHBOUR: 'it returns false'. Refute it at one input. -/
def raftLeadsWrong : ChangeSpec := { name := "raftLeads", fn := fun _ => fun
  | [d] => { results := [.lit (.bool false)], args := [d] }
  | _ => none }
def RaftLeadsWrongFalsely : Prop := raftLeadsRow.holds Tryz.pinned (OpenSpec.ofChange raftLeadsWrong)

/-- 'glebelaw17.RaftReads': WHATEVER THE INPUT: true; the input reads as it did. -/
def raftReadsSpec : ChangeSpec := { name := "raftReads", fn := fun _ => fun
  | [d] => { results := [.lit (.bool true)], args := [d] }
  | _ => none }
def raftReadsRow : OpenClaim := { program := "ytdeiamnhnfmilaagreat", sum := "cbd842e63ce5326f88e08eedfc0e8ecde453882dc33e3f44cb9cf04e6dfaa425", func := "glebe/glebelaw17.RaftReads", spec := "raftReads", unfollowed := true, recurses := true, apart := false }
def RaftReadsSaid : Prop := raftReadsRow.holds Tryz.pinned (OpenSpec.ofChange raftReadsSpec)

/-- ITS FALSE NEIGHBOUR: 'it returns false'. Refute it at one input. -/
def raftReadsWrong : ChangeSpec := { name := "raftReads", fn := fun _ => fun
  | [d] => { results := [.lit (.bool false)], args := [d] }
  | _ => none }
def RaftReadsWrongFalsely : Prop := raftReadsRow.holds Tryz.pinned (OpenSpec.ofChange raftReadsWrong)

/- THE SECOND FORM. 'bulk': how many values and letters a reading holds, each counted each time it is reached (what is shared counts as often as it is met; a slice's spare places count too). A statement '..UptoSaid' is the law's where the arguments, and the package variables that the reading takes, are together of bulk at most 1048576: NARROWER than '..Said'. Prove '..Said' where nothing that the law and all that it calls make is longer than what came in: it says more and counts as full. Else prove '..UptoSaid'. A law counts once. -/
mutual
def uptoBulk {H : Type} : DataW H → Nat
  | .lit (.string bytes) => bytes.length + 1
  | .lit _ => 1
  | .nil => 1
  | .ptr d => uptoBulk d + 1
  | .slice elems spare => uptoBulkAll elems + uptoBulkAll spare + 1
  | .agg parts => uptoBulkAll parts + 1
  | .iface _ d => uptoBulk d + 1
  | .map entries => uptoBulkEntries entries + 1
  | .held _ => 1
def uptoBulkAll {H : Type} : List (DataW H) → Nat
  | [] => 0
  | d :: r => uptoBulk d + uptoBulkAll r
def uptoBulkEntries {H : Type} : List (Lit × DataW H) → Nat
  | [] => 0
  | x :: r => uptoBulkEntry x + uptoBulkEntries r
def uptoBulkEntry {H : Type} : Lit × DataW H → Nat
  | (.string bytes, d) => bytes.length + uptoBulk d + 1
  | (_, d) => uptoBulk d + 1
 end
def uptoSmall : (H : Type) → List (DataW H) → Bool := fun _ ds => decide (uptoBulkAll ds ≤ 1048576)
def OpenSpec.upto (s : _root_.Go.ChangeSpec) : _root_.Go.OpenSpec := { _root_.Go.OpenSpec.ofChange s with cond := some uptoSmall }

/-- 'glebelaw17.RaftKnown', WHERE WHAT IT READS IS OF BULK AT MOST 1048576: true; the input reads as it did. -/
def raftKnownUptoRow : OpenClaim := { program := "ytdeiamnhnfmilaagreat", sum := "cbd842e63ce5326f88e08eedfc0e8ecde453882dc33e3f44cb9cf04e6dfaa425", func := "glebe/glebelaw17.RaftKnown", spec := "raftKnown", unfollowed := true, recurses := true, apart := false, narrowed := true }
def RaftKnownUptoSaid : Prop := raftKnownUptoRow.holds Tryz.pinned (OpenSpec.upto raftKnownSpec)

/-- 'glebelaw17.RaftPlays', WHERE WHAT IT READS IS OF BULK AT MOST 1048576: true; the input reads as it did. -/
def raftPlaysUptoRow : OpenClaim := { program := "ytdeiamnhnfmilaagreat", sum := "cbd842e63ce5326f88e08eedfc0e8ecde453882dc33e3f44cb9cf04e6dfaa425", func := "glebe/glebelaw17.RaftPlays", spec := "raftPlays", unfollowed := true, recurses := true, apart := false, narrowed := true }
def RaftPlaysUptoSaid : Prop := raftPlaysUptoRow.holds Tryz.pinned (OpenSpec.upto raftPlaysSpec)

/-- 'glebelaw17.RaftVotes', WHERE WHAT IT READS IS OF BULK AT MOST 1048576: true; the input reads as it did. -/
def raftVotesUptoRow : OpenClaim := { program := "ytdeiamnhnfmilaagreat", sum := "cbd842e63ce5326f88e08eedfc0e8ecde453882dc33e3f44cb9cf04e6dfaa425", func := "glebe/glebelaw17.RaftVotes", spec := "raftVotes", unfollowed := true, recurses := true, apart := false, narrowed := true }
def RaftVotesUptoSaid : Prop := raftVotesUptoRow.holds Tryz.pinned (OpenSpec.upto raftVotesSpec)

/-- 'glebelaw17.RaftSafe', WHERE WHAT IT READS IS OF BULK AT MOST 1048576: true; the input reads as it did. -/
def raftSafeUptoRow : OpenClaim := { program := "ytdeiamnhnfmilaagreat", sum := "cbd842e63ce5326f88e08eedfc0e8ecde453882dc33e3f44cb9cf04e6dfaa425", func := "glebe/glebelaw17.RaftSafe", spec := "raftSafe", unfollowed := true, recurses := true, apart := false, narrowed := true }
def RaftSafeUptoSaid : Prop := raftSafeUptoRow.holds Tryz.pinned (OpenSpec.upto raftSafeSpec)

/-- 'glebelaw17.RaftLeads', WHERE WHAT IT READS IS OF BULK AT MOST 1048576: true; the input reads as it did. -/
def raftLeadsUptoRow : OpenClaim := { program := "ytdeiamnhnfmilaagreat", sum := "cbd842e63ce5326f88e08eedfc0e8ecde453882dc33e3f44cb9cf04e6dfaa425", func := "glebe/glebelaw17.RaftLeads", spec := "raftLeads", unfollowed := true, recurses := true, apart := false, narrowed := true }
def RaftLeadsUptoSaid : Prop := raftLeadsUptoRow.holds Tryz.pinned (OpenSpec.upto raftLeadsSpec)

/-- 'glebelaw17.RaftReads', WHERE WHAT IT READS IS OF BULK AT MOST 1048576: true; the input reads as it did. -/
def raftReadsUptoRow : OpenClaim := { program := "ytdeiamnhnfmilaagreat", sum := "cbd842e63ce5326f88e08eedfc0e8ecde453882dc33e3f44cb9cf04e6dfaa425", func := "glebe/glebelaw17.RaftReads", spec := "raftReads", unfollowed := true, recurses := true, apart := false, narrowed := true }
def RaftReadsUptoSaid : Prop := raftReadsUptoRow.holds Tryz.pinned (OpenSpec.upto raftReadsSpec)

end Rows
end Go.Proofs.YtdeiamnhnfmilaaGreat
