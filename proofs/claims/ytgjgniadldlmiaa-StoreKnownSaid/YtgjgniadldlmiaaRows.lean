/-
  No cell of these rows narrows 'for every input' (looked for: loops, veiled, ifaces, maps, wideKeys, modest, calm, conditions, laid).
  DERIVED. THE GIVEN ROWS OF THIS SEAT. 3 by the template 'for every input the law returns true; each argument reads behind the call as it read before'; 0 by the template 'total and deterministic' (their statements: YtgjgniadldlmiaaTotals.lean).
  GIVEN WITH THE SEED: the statements are not yours to turn. If you find one false, say at which input.
  Laid BY PROGRAM, IN A SANDBOX (cutbox-rows.mjs): the forced cells as the released guide's own fill.sh prints them over the translation 06a6aaa75ff41f7c… (all of the seat's roots in one cut). By AI agents, Wed Nov 11 2026. No macro, syntax, notation, axiom, sorry.
-/
import Derived.Test.YtgjgniadldlmiaaChecked
import GoSem.Claim
import GoSem.ClaimJoined
import GoSem.ClaimMapViews
import Derived.JoinedTies
import Derived.KernelRfl
namespace Go.Proofs.Ytgjgniadldlmiaa
/- THE CELL 'sum', in the pinned program and in every row, IS THE sha256 OF THE DUMP (.gsa) THAT YtgjgniadldlmiaaProg.lean LOADS. Nothing in Lean hashes anything: it is a label: what it is worth is what the hold of that sum in a sandbox is worth. -/
noncomputable def Try.pinned : Pinned := { name := "ytgjgniadldlmiaa", sum := "06a6aaa75ff41f7c5864f79894976026f7dc42e7aad007ab01f3c0cac06ebd68", checked := Try.checked }
namespace Rows
def none {H : Type} : Left H := { results := [], args := [] }

/-- 'glebelaw09.StoreRises': WHATEVER THE INPUT: true; the input reads as it did. -/
def storeRisesSpec : ChangeSpec := { name := "storeRises", fn := fun _ => fun
  | [d1, d2] => { results := [.lit (.bool true)], args := [d1, d2] }
  | _ => none }
def storeRisesRow : OpenClaim := { program := "ytgjgniadldlmiaa", sum := "06a6aaa75ff41f7c5864f79894976026f7dc42e7aad007ab01f3c0cac06ebd68", func := "glebe/glebelaw09.StoreRises", spec := "storeRises", unfollowed := true, recurses := true, apart := false }
def StoreRisesSaid : Prop := storeRisesRow.holds Try.pinned (OpenSpec.ofChange storeRisesSpec)

/-- ITS FALSE NEIGHBOUR: 'it returns false'. Refute it at one input. -/
def storeRisesWrong : ChangeSpec := { name := "storeRises", fn := fun _ => fun
  | [d1, d2] => { results := [.lit (.bool false)], args := [d1, d2] }
  | _ => none }
def StoreRisesWrongFalsely : Prop := storeRisesRow.holds Try.pinned (OpenSpec.ofChange storeRisesWrong)

/-- 'glebelaw09.StoreThere': WHATEVER THE INPUT: true; the input reads as it did. -/
def storeThereSpec : ChangeSpec := { name := "storeThere", fn := fun _ => fun
  | [d] => { results := [.lit (.bool true)], args := [d] }
  | _ => none }
def storeThereRow : OpenClaim := { program := "ytgjgniadldlmiaa", sum := "06a6aaa75ff41f7c5864f79894976026f7dc42e7aad007ab01f3c0cac06ebd68", func := "glebe/glebelaw09.StoreThere", spec := "storeThere", unfollowed := true, recurses := true, apart := false }
def StoreThereSaid : Prop := storeThereRow.holds Try.pinned (OpenSpec.ofChange storeThereSpec)

/-- ITS FALSE NEIGHBOUR: 'it returns false'. Refute it at one input. -/
def storeThereWrong : ChangeSpec := { name := "storeThere", fn := fun _ => fun
  | [d] => { results := [.lit (.bool false)], args := [d] }
  | _ => none }
def StoreThereWrongFalsely : Prop := storeThereRow.holds Try.pinned (OpenSpec.ofChange storeThereWrong)

/-- 'glebelaw09.StoreKnown': WHATEVER THE INPUT: true; the input reads as it did. -/
def storeKnownSpec : ChangeSpec := { name := "storeKnown", fn := fun _ => fun
  | [] => { results := [.lit (.bool true)], args := [] }
  | _ => none }
def storeKnownRow : OpenClaim := { program := "ytgjgniadldlmiaa", sum := "06a6aaa75ff41f7c5864f79894976026f7dc42e7aad007ab01f3c0cac06ebd68", func := "glebe/glebelaw09.StoreKnown", spec := "storeKnown", unfollowed := true, recurses := true, apart := false }
def StoreKnownSaid : Prop := storeKnownRow.holds Try.pinned (OpenSpec.ofChange storeKnownSpec)

/-- ITS FALSE NEIGHBOUR: 'it returns false'. Refute it at one input. -/
def storeKnownWrong : ChangeSpec := { name := "storeKnown", fn := fun _ => fun
  | [] => { results := [.lit (.bool false)], args := [] }
  | _ => none }
def StoreKnownWrongFalsely : Prop := storeKnownRow.holds Try.pinned (OpenSpec.ofChange storeKnownWrong)

/- THE SECOND FORM. 'bulk': how many values and letters a reading holds, each counted each time it is reached (what is shared counts as often as it is met; a slice's spare places count too). A statement '..UptoSaid' is the law's where the arguments, and the package variables that the reading takes, are together of bulk at most 1048576: NARROWER than '..Said'. Prove '..Said' where nothing that the law and all that it calls make is longer than what came in: it says more and counts as full. Else prove '..UptoSaid'. A law counts once. -/
mutual
def uptoBulk {H : Type} : DataW H → Nat
  | .lit (.string bytes) => bytes.length + 1
  | .lit _ => 1
  | .nil => 1
  | .ptr d => uptoBulk d + 1
  | .slice elems spare => uptoBulkAll elems + uptoBulkAll spare + 1
  | .agg parts => uptoBulkAll parts + 1
  | .iface _ d => uptoBulk d + 1
  | .map entries => uptoBulkEntries entries + 1
  | .held _ => 1
def uptoBulkAll {H : Type} : List (DataW H) → Nat
  | [] => 0
  | d :: r => uptoBulk d + uptoBulkAll r
def uptoBulkEntries {H : Type} : List (Lit × DataW H) → Nat
  | [] => 0
  | x :: r => uptoBulkEntry x + uptoBulkEntries r
def uptoBulkEntry {H : Type} : Lit × DataW H → Nat
  | (.string bytes, d) => bytes.length + uptoBulk d + 1
  | (_, d) => uptoBulk d + 1
 end
def uptoSmall : (H : Type) → List (DataW H) → Bool := fun _ ds => decide (uptoBulkAll ds ≤ 1048576)
def OpenSpec.upto (s : _root_.Go.ChangeSpec) : _root_.Go.OpenSpec := { _root_.Go.OpenSpec.ofChange s with cond := some uptoSmall }

/-- 'glebelaw09.StoreRises', WHERE WHAT IT READS IS OF BULK AT MOST 1048576: true; the input reads as it did. -/
def storeRisesUptoRow : OpenClaim := { program := "ytgjgniadldlmiaa", sum := "06a6aaa75ff41f7c5864f79894976026f7dc42e7aad007ab01f3c0cac06ebd68", func := "glebe/glebelaw09.StoreRises", spec := "storeRises", unfollowed := true, recurses := true, apart := false, narrowed := true }
def StoreRisesUptoSaid : Prop := storeRisesUptoRow.holds Try.pinned (OpenSpec.upto storeRisesSpec)

/-- 'glebelaw09.StoreThere', WHERE WHAT IT READS IS OF BULK AT MOST 1048576: true; the input reads as it did. -/
def storeThereUptoRow : OpenClaim := { program := "ytgjgniadldlmiaa", sum := "06a6aaa75ff41f7c5864f79894976026f7dc42e7aad007ab01f3c0cac06ebd68", func := "glebe/glebelaw09.StoreThere", spec := "storeThere", unfollowed := true, recurses := true, apart := false, narrowed := true }
def StoreThereUptoSaid : Prop := storeThereUptoRow.holds Try.pinned (OpenSpec.upto storeThereSpec)

/-- 'glebelaw09.StoreKnown', WHERE WHAT IT READS IS OF BULK AT MOST 1048576: true; the input reads as it did. -/
def storeKnownUptoRow : OpenClaim := { program := "ytgjgniadldlmiaa", sum := "06a6aaa75ff41f7c5864f79894976026f7dc42e7aad007ab01f3c0cac06ebd68", func := "glebe/glebelaw09.StoreKnown", spec := "storeKnown", unfollowed := true, recurses := true, apart := false, narrowed := true }
def StoreKnownUptoSaid : Prop := storeKnownUptoRow.holds Try.pinned (OpenSpec.upto storeKnownSpec)

end Rows
end Go.Proofs.Ytgjgniadldlmiaa
