/-
  A library of its own: its parts, one behind the other.
-/
import Derived.Test.YtgjgniadldlmiaaGlbSecA
import Derived.Test.YtgjgniadldlmiaaGlbTurA
import Derived.Test.YtgjgniadldlmiaaGlbLibB
import Derived.Test.YtgjgniadldlmiaaGlbImgB
set_option linter.unusedSimpArgs false
set_option linter.unusedVariables false
/-
  Layer 4: the document's lists.
-/
namespace Glb
open Go
set_option maxRecDepth 10000
set_option maxHeartbeats 4000000

def Sec.c (s : Sec) : List D := [.int .i64 s.no, dBytes s.b, .bool s.torn]
def dSecs (l : List Sec) : D := .sl 3 (l.map Sec.c)
def asecs (l : List Sec) : AV := (dSecs l).av
theorem rd_asecs (F : Nat → Prop) (h : AHeap) (l : List Sec) : Rd F h (dSecs l) (asecs l) := rd_av _ _ _
theorem len_asecs (l : List Sec) : alen (asecs l) = some (.int .i64 l.length) := by simpa using (rd_asecs nof [] l).len
theorem scalar_asecs (l : List Sec) : (asecs l).scalar = true := av_scalar _
theorem cells_asecs (l : List Sec) : (asecs l).cells? = some [asecs l] := cells_of (av_scalar _)
attribute [go_sem] len_asecs scalar_asecs cells_asecs

def sidx : List Sec → Int → Int
  | [], _ => -1
  | x :: r, k => if x.no = k then 0 else if sidx r k = -1 then -1 else sidx r k + 1
end Glb

/-
  Layer 4: the document's disk.
-/
namespace Glb
open Go
set_option maxRecDepth 10000
set_option maxHeartbeats 4000000

end Glb
