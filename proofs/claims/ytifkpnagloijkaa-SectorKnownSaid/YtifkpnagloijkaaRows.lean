/-
  No cell of these rows narrows 'for every input' (looked for: loops, veiled, ifaces, maps, wideKeys, modest, calm, conditions, laid).
  DERIVED. THE GIVEN ROWS OF THIS SEAT. 5 by the template 'for every input the law returns true; each argument reads behind the call as it read before'; 0 by the template 'total and deterministic' (their statements: YtifkpnagloijkaaTotals.lean).
  GIVEN WITH THE SEED: the statements are not yours to turn. If you find one false, say at which input.
  Laid BY PROGRAM, IN A SANDBOX (cutbox-rows.mjs): the forced cells as the released guide's own fill.sh prints them over the translation 4fbdc770910bb869… (all of the seat's roots in one cut). By AI agents, Wed Nov 11 2026. No macro, syntax, notation, axiom, sorry.
-/
import Derived.Test.YtifkpnagloijkaaChecked
import GoSem.Claim
import GoSem.ClaimJoined
import GoSem.ClaimMapViews
import Derived.JoinedTies
import Derived.KernelRfl
namespace Go.Proofs.Ytifkpnagloijkaa
/- THE CELL 'sum', in the pinned program and in every row, IS THE sha256 OF THE DUMP (.gsa) THAT YtifkpnagloijkaaProg.lean LOADS. Nothing in Lean hashes anything: it is a label: what it is worth is what the hold of that sum in a sandbox is worth. -/
noncomputable def Try.pinned : Pinned := { name := "ytifkpnagloijkaa", sum := "4fbdc770910bb869432f3df5cf5e53c8dd9bfb3ba5b78cca6664bc7c482637fe", checked := Try.checked }
namespace Rows
def none {H : Type} : Left H := { results := [], args := [] }

/-- 'glebelaw04.SectorCrashed': WHATEVER THE INPUT: true; the input reads as it did. -/
def sectorCrashedSpec : ChangeSpec := { name := "sectorCrashed", fn := fun _ => fun
  | [d1, d2, d3, d4] => { results := [.lit (.bool true)], args := [d1, d2, d3, d4] }
  | _ => none }
def sectorCrashedRow : OpenClaim := { program := "ytifkpnagloijkaa", sum := "4fbdc770910bb869432f3df5cf5e53c8dd9bfb3ba5b78cca6664bc7c482637fe", func := "glebe/glebelaw04.SectorCrashed", spec := "sectorCrashed", unfollowed := true, recurses := true, apart := false }
def SectorCrashedSaid : Prop := sectorCrashedRow.holds Try.pinned (OpenSpec.ofChange sectorCrashedSpec)

/-- ITS FALSE NEIGHBOUR: 'it returns false'. Refute it at one input. -/
def sectorCrashedWrong : ChangeSpec := { name := "sectorCrashed", fn := fun _ => fun
  | [d1, d2, d3, d4] => { results := [.lit (.bool false)], args := [d1, d2, d3, d4] }
  | _ => none }
def SectorCrashedWrongFalsely : Prop := sectorCrashedRow.holds Try.pinned (OpenSpec.ofChange sectorCrashedWrong)

/-- 'glebelaw04.SectorRuns': WHATEVER THE INPUT: true; the input reads as it did. -/
def sectorRunsSpec : ChangeSpec := { name := "sectorRuns", fn := fun _ => fun
  | [d1, d2] => { results := [.lit (.bool true)], args := [d1, d2] }
  | _ => none }
def sectorRunsRow : OpenClaim := { program := "ytifkpnagloijkaa", sum := "4fbdc770910bb869432f3df5cf5e53c8dd9bfb3ba5b78cca6664bc7c482637fe", func := "glebe/glebelaw04.SectorRuns", spec := "sectorRuns", unfollowed := true, recurses := true, apart := false }
def SectorRunsSaid : Prop := sectorRunsRow.holds Try.pinned (OpenSpec.ofChange sectorRunsSpec)

/-- ITS FALSE NEIGHBOUR: 'it returns false'. Refute it at one input. -/
def sectorRunsWrong : ChangeSpec := { name := "sectorRuns", fn := fun _ => fun
  | [d1, d2] => { results := [.lit (.bool false)], args := [d1, d2] }
  | _ => none }
def SectorRunsWrongFalsely : Prop := sectorRunsRow.holds Try.pinned (OpenSpec.ofChange sectorRunsWrong)

/-- 'glebelaw04.SectorFlushed': WHATEVER THE INPUT: true; the input reads as it did. -/
def sectorFlushedSpec : ChangeSpec := { name := "sectorFlushed", fn := fun _ => fun
  | [d1, d2, d3] => { results := [.lit (.bool true)], args := [d1, d2, d3] }
  | _ => none }
def sectorFlushedRow : OpenClaim := { program := "ytifkpnagloijkaa", sum := "4fbdc770910bb869432f3df5cf5e53c8dd9bfb3ba5b78cca6664bc7c482637fe", func := "glebe/glebelaw04.SectorFlushed", spec := "sectorFlushed", unfollowed := true, recurses := true, apart := false }
def SectorFlushedSaid : Prop := sectorFlushedRow.holds Try.pinned (OpenSpec.ofChange sectorFlushedSpec)

/-- ITS FALSE NEIGHBOUR: 'it returns false'. Refute it at one input. -/
def sectorFlushedWrong : ChangeSpec := { name := "sectorFlushed", fn := fun _ => fun
  | [d1, d2, d3] => { results := [.lit (.bool false)], args := [d1, d2, d3] }
  | _ => none }
def SectorFlushedWrongFalsely : Prop := sectorFlushedRow.holds Try.pinned (OpenSpec.ofChange sectorFlushedWrong)

/-- 'glebelaw04.SectorFails': WHATEVER THE INPUT: true; the input reads as it did. -/
def sectorFailsSpec : ChangeSpec := { name := "sectorFails", fn := fun _ => fun
  | [d1, d2] => { results := [.lit (.bool true)], args := [d1, d2] }
  | _ => none }
def sectorFailsRow : OpenClaim := { program := "ytifkpnagloijkaa", sum := "4fbdc770910bb869432f3df5cf5e53c8dd9bfb3ba5b78cca6664bc7c482637fe", func := "glebe/glebelaw04.SectorFails", spec := "sectorFails", unfollowed := true, recurses := true, apart := false }
def SectorFailsSaid : Prop := sectorFailsRow.holds Try.pinned (OpenSpec.ofChange sectorFailsSpec)

/-- ITS FALSE NEIGHBOUR: 'it returns false'. Refute it at one input. -/
def sectorFailsWrong : ChangeSpec := { name := "sectorFails", fn := fun _ => fun
  | [d1, d2] => { results := [.lit (.bool false)], args := [d1, d2] }
  | _ => none }
def SectorFailsWrongFalsely : Prop := sectorFailsRow.holds Try.pinned (OpenSpec.ofChange sectorFailsWrong)

/-- 'glebelaw04.SectorKnown': WHATEVER THE INPUT: true; the input reads as it did. -/
def sectorKnownSpec : ChangeSpec := { name := "sectorKnown", fn := fun _ => fun
  | [] => { results := [.lit (.bool true)], args := [] }
  | _ => none }
def sectorKnownRow : OpenClaim := { program := "ytifkpnagloijkaa", sum := "4fbdc770910bb869432f3df5cf5e53c8dd9bfb3ba5b78cca6664bc7c482637fe", func := "glebe/glebelaw04.SectorKnown", spec := "sectorKnown", unfollowed := true, recurses := true, apart := false }
def SectorKnownSaid : Prop := sectorKnownRow.holds Try.pinned (OpenSpec.ofChange sectorKnownSpec)

/-- ITS FALSE NEIGHBOUR: 'it returns false'. Refute it at one input. -/
def sectorKnownWrong : ChangeSpec := { name := "sectorKnown", fn := fun _ => fun
  | [] => { results := [.lit (.bool false)], args := [] }
  | _ => none }
def SectorKnownWrongFalsely : Prop := sectorKnownRow.holds Try.pinned (OpenSpec.ofChange sectorKnownWrong)

/- THE SECOND FORM. 'bulk': how many values and letters a reading holds, each counted each time it is reached (what is shared counts as often as it is met; a slice's spare places count too). A statement '..UptoSaid' is the law's where the arguments, and the package variables that the reading takes, are together of bulk at most 1048576: NARROWER than '..Said'. Prove '..Said' where nothing that the law and all that it calls make is longer than what came in: it says more and counts as full. Else prove '..UptoSaid'. A law counts once. -/
mutual
def uptoBulk {H : Type} : DataW H → Nat
  | .lit (.string bytes) => bytes.length + 1
  | .lit _ => 1
  | .nil => 1
  | .ptr d => uptoBulk d + 1
  | .slice elems spare => uptoBulkAll elems + uptoBulkAll spare + 1
  | .agg parts => uptoBulkAll parts + 1
  | .iface _ d => uptoBulk d + 1
  | .map entries => uptoBulkEntries entries + 1
  | .held _ => 1
def uptoBulkAll {H : Type} : List (DataW H) → Nat
  | [] => 0
  | d :: r => uptoBulk d + uptoBulkAll r
def uptoBulkEntries {H : Type} : List (Lit × DataW H) → Nat
  | [] => 0
  | x :: r => uptoBulkEntry x + uptoBulkEntries r
def uptoBulkEntry {H : Type} : Lit × DataW H → Nat
  | (.string bytes, d) => bytes.length + uptoBulk d + 1
  | (_, d) => uptoBulk d + 1
 end
def uptoSmall : (H : Type) → List (DataW H) → Bool := fun _ ds => decide (uptoBulkAll ds ≤ 1048576)
def OpenSpec.upto (s : _root_.Go.ChangeSpec) : _root_.Go.OpenSpec := { _root_.Go.OpenSpec.ofChange s with cond := some uptoSmall }

/-- 'glebelaw04.SectorCrashed', WHERE WHAT IT READS IS OF BULK AT MOST 1048576: true; the input reads as it did. -/
def sectorCrashedUptoRow : OpenClaim := { program := "ytifkpnagloijkaa", sum := "4fbdc770910bb869432f3df5cf5e53c8dd9bfb3ba5b78cca6664bc7c482637fe", func := "glebe/glebelaw04.SectorCrashed", spec := "sectorCrashed", unfollowed := true, recurses := true, apart := false, narrowed := true }
def SectorCrashedUptoSaid : Prop := sectorCrashedUptoRow.holds Try.pinned (OpenSpec.upto sectorCrashedSpec)

/-- 'glebelaw04.SectorRuns', WHERE WHAT IT READS IS OF BULK AT MOST 1048576: true; the input reads as it did. -/
def sectorRunsUptoRow : OpenClaim := { program := "ytifkpnagloijkaa", sum := "4fbdc770910bb869432f3df5cf5e53c8dd9bfb3ba5b78cca6664bc7c482637fe", func := "glebe/glebelaw04.SectorRuns", spec := "sectorRuns", unfollowed := true, recurses := true, apart := false, narrowed := true }
def SectorRunsUptoSaid : Prop := sectorRunsUptoRow.holds Try.pinned (OpenSpec.upto sectorRunsSpec)

/-- 'glebelaw04.SectorFlushed', WHERE WHAT IT READS IS OF BULK AT MOST 1048576: true; the input reads as it did. -/
def sectorFlushedUptoRow : OpenClaim := { program := "ytifkpnagloijkaa", sum := "4fbdc770910bb869432f3df5cf5e53c8dd9bfb3ba5b78cca6664bc7c482637fe", func := "glebe/glebelaw04.SectorFlushed", spec := "sectorFlushed", unfollowed := true, recurses := true, apart := false, narrowed := true }
def SectorFlushedUptoSaid : Prop := sectorFlushedUptoRow.holds Try.pinned (OpenSpec.upto sectorFlushedSpec)

/-- 'glebelaw04.SectorFails', WHERE WHAT IT READS IS OF BULK AT MOST 1048576: true; the input reads as it did. -/
def sectorFailsUptoRow : OpenClaim := { program := "ytifkpnagloijkaa", sum := "4fbdc770910bb869432f3df5cf5e53c8dd9bfb3ba5b78cca6664bc7c482637fe", func := "glebe/glebelaw04.SectorFails", spec := "sectorFails", unfollowed := true, recurses := true, apart := false, narrowed := true }
def SectorFailsUptoSaid : Prop := sectorFailsUptoRow.holds Try.pinned (OpenSpec.upto sectorFailsSpec)

/-- 'glebelaw04.SectorKnown', WHERE WHAT IT READS IS OF BULK AT MOST 1048576: true; the input reads as it did. -/
def sectorKnownUptoRow : OpenClaim := { program := "ytifkpnagloijkaa", sum := "4fbdc770910bb869432f3df5cf5e53c8dd9bfb3ba5b78cca6664bc7c482637fe", func := "glebe/glebelaw04.SectorKnown", spec := "sectorKnown", unfollowed := true, recurses := true, apart := false, narrowed := true }
def SectorKnownUptoSaid : Prop := sectorKnownUptoRow.holds Try.pinned (OpenSpec.upto sectorKnownSpec)

end Rows
end Go.Proofs.Ytifkpnagloijkaa
