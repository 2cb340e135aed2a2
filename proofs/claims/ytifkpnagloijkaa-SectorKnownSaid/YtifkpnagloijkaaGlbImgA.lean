/-
  A library of its own: its parts, one behind the other.
-/
import Derived.Test.YtifkpnagloijkaaGlbKitB
import Derived.Test.YtifkpnagloijkaaGlbQuoA
import Derived.Test.YtifkpnagloijkaaGlbMorA
import Derived.Test.YtifkpnagloijkaaGlbLibB
set_option linter.unusedSimpArgs false
set_option linter.unusedVariables false
/-
  What is written as bytes, and read back: a theory of its own, no program in sight.
-/
namespace Glb
open Go
set_option maxRecDepth 10000

end Glb

/-
  What an image is made of, and how it is written.
-/
namespace Glb
open Go
set_option maxRecDepth 10000

structure Vote where
  txn : Int
  part : Int
  promised : Int
  ballot : Int
  value : Int
  deriving DecidableEq
structure Change where
  kind : Int
  group : Int
  term : Int
  voted : Int
  from_ : Int
  log : Log
  conf : Conf
  snap : List Int
  vote : Vote
  deriving DecidableEq
def Vote.c (v : Vote) : List D := [.int .i64 v.txn, .int .i64 v.part, .int .i64 v.promised, .int .i64 v.ballot, .int .i64 v.value]
def dHards (l : List Hard) : D := .sl 10 (l.map Hard.c)
def dVotes (l : List Vote) : D := .sl 5 (l.map Vote.c)
def Change.c (x : Change) : List D := [.int .i64 x.kind, .int .i64 x.group, .int .i64 x.term, .int .i64 x.voted, .int .i64 x.from_, .int .i64 x.log.base, .int .i64 x.log.bterm, dEntries x.log.es, dInts x.conf.old, dInts x.conf.new, dInts x.conf.learners, dBytes x.snap,
  .int .i64 x.vote.txn, .int .i64 x.vote.part, .int .i64 x.vote.promised, .int .i64 x.vote.ballot, .int .i64 x.vote.value]
def dChanges (l : List Change) : D := .sl 17 (l.map Change.c)
end Glb

/-
  What the program writes as bytes.
-/
namespace Glb
open Go
set_option maxRecDepth 10000
set_option maxHeartbeats 8000000

end Glb

/-
  What the program writes as bytes: images, changes.
-/
namespace Glb
open Go
set_option maxRecDepth 10000
set_option maxHeartbeats 8000000

end Glb

/-
  What the document writes as bytes.
-/
namespace Glb
open Go
set_option maxRecDepth 10000
set_option maxHeartbeats 8000000

end Glb
