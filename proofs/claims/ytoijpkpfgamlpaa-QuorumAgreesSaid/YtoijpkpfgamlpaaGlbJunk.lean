/-
  What lies in the first new blocks of a heap, also where more came behind them.
-/
import Derived.Test.YtoijpkpfgamlpaaGlbFrz
set_option linter.unusedSimpArgs false
set_option linter.unusedVariables false
namespace Glb
open Go

theorem bj10 (h j : AHeap) (x0 : Option ABlk) : (h ++ [x0] ++ j)[h.length]? = some x0 :=
  (List.getElem?_append_left (by simp)).trans (bx10 h x0)
theorem sj10 (h j : AHeap) (x0 y : Option ABlk) : (h ++ [x0] ++ j).set (h.length) y = h ++ [y] ++ j :=
  (List.set_append_left _ _ (by simp)).trans (congrArg (· ++ j) (sx10 h x0 y))
theorem bj20 (h j : AHeap) (x0 x1 : Option ABlk) : (h ++ [x0] ++ [x1] ++ j)[h.length]? = some x0 :=
  (List.getElem?_append_left (by simp)).trans (bx20 h x0 x1)
theorem sj20 (h j : AHeap) (x0 x1 y : Option ABlk) : (h ++ [x0] ++ [x1] ++ j).set (h.length) y = h ++ [y] ++ [x1] ++ j :=
  (List.set_append_left _ _ (by simp)).trans (congrArg (· ++ j) (sx20 h x0 x1 y))
theorem bj21 (h j : AHeap) (x0 x1 : Option ABlk) : (h ++ [x0] ++ [x1] ++ j)[h.length + 1]? = some x1 :=
  (List.getElem?_append_left (by simp)).trans (bx21 h x0 x1)
theorem sj21 (h j : AHeap) (x0 x1 y : Option ABlk) : (h ++ [x0] ++ [x1] ++ j).set (h.length + 1) y = h ++ [x0] ++ [y] ++ j :=
  (List.set_append_left _ _ (by simp)).trans (congrArg (· ++ j) (sx21 h x0 x1 y))
theorem bj30 (h j : AHeap) (x0 x1 x2 : Option ABlk) : (h ++ [x0] ++ [x1] ++ [x2] ++ j)[h.length]? = some x0 :=
  (List.getElem?_append_left (by simp)).trans (bx30 h x0 x1 x2)
theorem sj30 (h j : AHeap) (x0 x1 x2 y : Option ABlk) : (h ++ [x0] ++ [x1] ++ [x2] ++ j).set (h.length) y = h ++ [y] ++ [x1] ++ [x2] ++ j :=
  (List.set_append_left _ _ (by simp)).trans (congrArg (· ++ j) (sx30 h x0 x1 x2 y))
theorem bj31 (h j : AHeap) (x0 x1 x2 : Option ABlk) : (h ++ [x0] ++ [x1] ++ [x2] ++ j)[h.length + 1]? = some x1 :=
  (List.getElem?_append_left (by simp)).trans (bx31 h x0 x1 x2)
theorem sj31 (h j : AHeap) (x0 x1 x2 y : Option ABlk) : (h ++ [x0] ++ [x1] ++ [x2] ++ j).set (h.length + 1) y = h ++ [x0] ++ [y] ++ [x2] ++ j :=
  (List.set_append_left _ _ (by simp)).trans (congrArg (· ++ j) (sx31 h x0 x1 x2 y))
theorem bj32 (h j : AHeap) (x0 x1 x2 : Option ABlk) : (h ++ [x0] ++ [x1] ++ [x2] ++ j)[h.length + 1 + 1]? = some x2 :=
  (List.getElem?_append_left (by simp)).trans (bx32 h x0 x1 x2)
theorem sj32 (h j : AHeap) (x0 x1 x2 y : Option ABlk) : (h ++ [x0] ++ [x1] ++ [x2] ++ j).set (h.length + 1 + 1) y = h ++ [x0] ++ [x1] ++ [y] ++ j :=
  (List.set_append_left _ _ (by simp)).trans (congrArg (· ++ j) (sx32 h x0 x1 x2 y))
theorem bj40 (h j : AHeap) (x0 x1 x2 x3 : Option ABlk) : (h ++ [x0] ++ [x1] ++ [x2] ++ [x3] ++ j)[h.length]? = some x0 :=
  (List.getElem?_append_left (by simp)).trans (bx40 h x0 x1 x2 x3)
theorem sj40 (h j : AHeap) (x0 x1 x2 x3 y : Option ABlk) : (h ++ [x0] ++ [x1] ++ [x2] ++ [x3] ++ j).set (h.length) y = h ++ [y] ++ [x1] ++ [x2] ++ [x3] ++ j :=
  (List.set_append_left _ _ (by simp)).trans (congrArg (· ++ j) (sx40 h x0 x1 x2 x3 y))
theorem bj41 (h j : AHeap) (x0 x1 x2 x3 : Option ABlk) : (h ++ [x0] ++ [x1] ++ [x2] ++ [x3] ++ j)[h.length + 1]? = some x1 :=
  (List.getElem?_append_left (by simp)).trans (bx41 h x0 x1 x2 x3)
theorem sj41 (h j : AHeap) (x0 x1 x2 x3 y : Option ABlk) : (h ++ [x0] ++ [x1] ++ [x2] ++ [x3] ++ j).set (h.length + 1) y = h ++ [x0] ++ [y] ++ [x2] ++ [x3] ++ j :=
  (List.set_append_left _ _ (by simp)).trans (congrArg (· ++ j) (sx41 h x0 x1 x2 x3 y))
theorem bj42 (h j : AHeap) (x0 x1 x2 x3 : Option ABlk) : (h ++ [x0] ++ [x1] ++ [x2] ++ [x3] ++ j)[h.length + 1 + 1]? = some x2 :=
  (List.getElem?_append_left (by simp)).trans (bx42 h x0 x1 x2 x3)
theorem sj42 (h j : AHeap) (x0 x1 x2 x3 y : Option ABlk) : (h ++ [x0] ++ [x1] ++ [x2] ++ [x3] ++ j).set (h.length + 1 + 1) y = h ++ [x0] ++ [x1] ++ [y] ++ [x3] ++ j :=
  (List.set_append_left _ _ (by simp)).trans (congrArg (· ++ j) (sx42 h x0 x1 x2 x3 y))
theorem bj43 (h j : AHeap) (x0 x1 x2 x3 : Option ABlk) : (h ++ [x0] ++ [x1] ++ [x2] ++ [x3] ++ j)[h.length + 1 + 1 + 1]? = some x3 :=
  (List.getElem?_append_left (by simp)).trans (bx43 h x0 x1 x2 x3)
theorem sj43 (h j : AHeap) (x0 x1 x2 x3 y : Option ABlk) : (h ++ [x0] ++ [x1] ++ [x2] ++ [x3] ++ j).set (h.length + 1 + 1 + 1) y = h ++ [x0] ++ [x1] ++ [x2] ++ [y] ++ j :=
  (List.set_append_left _ _ (by simp)).trans (congrArg (· ++ j) (sx43 h x0 x1 x2 x3 y))
theorem bj50 (h j : AHeap) (x0 x1 x2 x3 x4 : Option ABlk) : (h ++ [x0] ++ [x1] ++ [x2] ++ [x3] ++ [x4] ++ j)[h.length]? = some x0 :=
  (List.getElem?_append_left (by simp)).trans (bx50 h x0 x1 x2 x3 x4)
theorem sj50 (h j : AHeap) (x0 x1 x2 x3 x4 y : Option ABlk) : (h ++ [x0] ++ [x1] ++ [x2] ++ [x3] ++ [x4] ++ j).set (h.length) y = h ++ [y] ++ [x1] ++ [x2] ++ [x3] ++ [x4] ++ j :=
  (List.set_append_left _ _ (by simp)).trans (congrArg (· ++ j) (sx50 h x0 x1 x2 x3 x4 y))
theorem bj51 (h j : AHeap) (x0 x1 x2 x3 x4 : Option ABlk) : (h ++ [x0] ++ [x1] ++ [x2] ++ [x3] ++ [x4] ++ j)[h.length + 1]? = some x1 :=
  (List.getElem?_append_left (by simp)).trans (bx51 h x0 x1 x2 x3 x4)
theorem sj51 (h j : AHeap) (x0 x1 x2 x3 x4 y : Option ABlk) : (h ++ [x0] ++ [x1] ++ [x2] ++ [x3] ++ [x4] ++ j).set (h.length + 1) y = h ++ [x0] ++ [y] ++ [x2] ++ [x3] ++ [x4] ++ j :=
  (List.set_append_left _ _ (by simp)).trans (congrArg (· ++ j) (sx51 h x0 x1 x2 x3 x4 y))
theorem bj52 (h j : AHeap) (x0 x1 x2 x3 x4 : Option ABlk) : (h ++ [x0] ++ [x1] ++ [x2] ++ [x3] ++ [x4] ++ j)[h.length + 1 + 1]? = some x2 :=
  (List.getElem?_append_left (by simp)).trans (bx52 h x0 x1 x2 x3 x4)
theorem sj52 (h j : AHeap) (x0 x1 x2 x3 x4 y : Option ABlk) : (h ++ [x0] ++ [x1] ++ [x2] ++ [x3] ++ [x4] ++ j).set (h.length + 1 + 1) y = h ++ [x0] ++ [x1] ++ [y] ++ [x3] ++ [x4] ++ j :=
  (List.set_append_left _ _ (by simp)).trans (congrArg (· ++ j) (sx52 h x0 x1 x2 x3 x4 y))
theorem bj53 (h j : AHeap) (x0 x1 x2 x3 x4 : Option ABlk) : (h ++ [x0] ++ [x1] ++ [x2] ++ [x3] ++ [x4] ++ j)[h.length + 1 + 1 + 1]? = some x3 :=
  (List.getElem?_append_left (by simp)).trans (bx53 h x0 x1 x2 x3 x4)
theorem sj53 (h j : AHeap) (x0 x1 x2 x3 x4 y : Option ABlk) : (h ++ [x0] ++ [x1] ++ [x2] ++ [x3] ++ [x4] ++ j).set (h.length + 1 + 1 + 1) y = h ++ [x0] ++ [x1] ++ [x2] ++ [y] ++ [x4] ++ j :=
  (List.set_append_left _ _ (by simp)).trans (congrArg (· ++ j) (sx53 h x0 x1 x2 x3 x4 y))
theorem bj54 (h j : AHeap) (x0 x1 x2 x3 x4 : Option ABlk) : (h ++ [x0] ++ [x1] ++ [x2] ++ [x3] ++ [x4] ++ j)[h.length + 1 + 1 + 1 + 1]? = some x4 :=
  (List.getElem?_append_left (by simp)).trans (bx54 h x0 x1 x2 x3 x4)
theorem sj54 (h j : AHeap) (x0 x1 x2 x3 x4 y : Option ABlk) : (h ++ [x0] ++ [x1] ++ [x2] ++ [x3] ++ [x4] ++ j).set (h.length + 1 + 1 + 1 + 1) y = h ++ [x0] ++ [x1] ++ [x2] ++ [x3] ++ [y] ++ j :=
  (List.set_append_left _ _ (by simp)).trans (congrArg (· ++ j) (sx54 h x0 x1 x2 x3 x4 y))
theorem bx60 (h : AHeap) (x0 x1 x2 x3 x4 x5 : Option ABlk) : (h ++ [x0] ++ [x1] ++ [x2] ++ [x3] ++ [x4] ++ [x5])[h.length]? = some x0 := by
  simp [List.getElem?_append, Nat.add_assoc]
theorem sx60 (h : AHeap) (x0 x1 x2 x3 x4 x5 y : Option ABlk) : (h ++ [x0] ++ [x1] ++ [x2] ++ [x3] ++ [x4] ++ [x5]).set (h.length) y = h ++ [y] ++ [x1] ++ [x2] ++ [x3] ++ [x4] ++ [x5] := by
  simp [Nat.add_assoc]
theorem bj60 (h j : AHeap) (x0 x1 x2 x3 x4 x5 : Option ABlk) : (h ++ [x0] ++ [x1] ++ [x2] ++ [x3] ++ [x4] ++ [x5] ++ j)[h.length]? = some x0 :=
  (List.getElem?_append_left (by simp)).trans (bx60 h x0 x1 x2 x3 x4 x5)
theorem sj60 (h j : AHeap) (x0 x1 x2 x3 x4 x5 y : Option ABlk) : (h ++ [x0] ++ [x1] ++ [x2] ++ [x3] ++ [x4] ++ [x5] ++ j).set (h.length) y = h ++ [y] ++ [x1] ++ [x2] ++ [x3] ++ [x4] ++ [x5] ++ j :=
  (List.set_append_left _ _ (by simp)).trans (congrArg (· ++ j) (sx60 h x0 x1 x2 x3 x4 x5 y))
theorem bx61 (h : AHeap) (x0 x1 x2 x3 x4 x5 : Option ABlk) : (h ++ [x0] ++ [x1] ++ [x2] ++ [x3] ++ [x4] ++ [x5])[h.length + 1]? = some x1 := by
  simp [List.getElem?_append, Nat.add_assoc]
theorem sx61 (h : AHeap) (x0 x1 x2 x3 x4 x5 y : Option ABlk) : (h ++ [x0] ++ [x1] ++ [x2] ++ [x3] ++ [x4] ++ [x5]).set (h.length + 1) y = h ++ [x0] ++ [y] ++ [x2] ++ [x3] ++ [x4] ++ [x5] := by
  simp [Nat.add_assoc]
theorem bj61 (h j : AHeap) (x0 x1 x2 x3 x4 x5 : Option ABlk) : (h ++ [x0] ++ [x1] ++ [x2] ++ [x3] ++ [x4] ++ [x5] ++ j)[h.length + 1]? = some x1 :=
  (List.getElem?_append_left (by simp)).trans (bx61 h x0 x1 x2 x3 x4 x5)
theorem sj61 (h j : AHeap) (x0 x1 x2 x3 x4 x5 y : Option ABlk) : (h ++ [x0] ++ [x1] ++ [x2] ++ [x3] ++ [x4] ++ [x5] ++ j).set (h.length + 1) y = h ++ [x0] ++ [y] ++ [x2] ++ [x3] ++ [x4] ++ [x5] ++ j :=
  (List.set_append_left _ _ (by simp)).trans (congrArg (· ++ j) (sx61 h x0 x1 x2 x3 x4 x5 y))
theorem bx62 (h : AHeap) (x0 x1 x2 x3 x4 x5 : Option ABlk) : (h ++ [x0] ++ [x1] ++ [x2] ++ [x3] ++ [x4] ++ [x5])[h.length + 1 + 1]? = some x2 := by
  simp [List.getElem?_append, Nat.add_assoc]
theorem sx62 (h : AHeap) (x0 x1 x2 x3 x4 x5 y : Option ABlk) : (h ++ [x0] ++ [x1] ++ [x2] ++ [x3] ++ [x4] ++ [x5]).set (h.length + 1 + 1) y = h ++ [x0] ++ [x1] ++ [y] ++ [x3] ++ [x4] ++ [x5] := by
  simp [Nat.add_assoc]
theorem bj62 (h j : AHeap) (x0 x1 x2 x3 x4 x5 : Option ABlk) : (h ++ [x0] ++ [x1] ++ [x2] ++ [x3] ++ [x4] ++ [x5] ++ j)[h.length + 1 + 1]? = some x2 :=
  (List.getElem?_append_left (by simp)).trans (bx62 h x0 x1 x2 x3 x4 x5)
theorem sj62 (h j : AHeap) (x0 x1 x2 x3 x4 x5 y : Option ABlk) : (h ++ [x0] ++ [x1] ++ [x2] ++ [x3] ++ [x4] ++ [x5] ++ j).set (h.length + 1 + 1) y = h ++ [x0] ++ [x1] ++ [y] ++ [x3] ++ [x4] ++ [x5] ++ j :=
  (List.set_append_left _ _ (by simp)).trans (congrArg (· ++ j) (sx62 h x0 x1 x2 x3 x4 x5 y))
theorem bx63 (h : AHeap) (x0 x1 x2 x3 x4 x5 : Option ABlk) : (h ++ [x0] ++ [x1] ++ [x2] ++ [x3] ++ [x4] ++ [x5])[h.length + 1 + 1 + 1]? = some x3 := by
  simp [List.getElem?_append, Nat.add_assoc]
theorem sx63 (h : AHeap) (x0 x1 x2 x3 x4 x5 y : Option ABlk) : (h ++ [x0] ++ [x1] ++ [x2] ++ [x3] ++ [x4] ++ [x5]).set (h.length + 1 + 1 + 1) y = h ++ [x0] ++ [x1] ++ [x2] ++ [y] ++ [x4] ++ [x5] := by
  simp [Nat.add_assoc]
theorem bj63 (h j : AHeap) (x0 x1 x2 x3 x4 x5 : Option ABlk) : (h ++ [x0] ++ [x1] ++ [x2] ++ [x3] ++ [x4] ++ [x5] ++ j)[h.length + 1 + 1 + 1]? = some x3 :=
  (List.getElem?_append_left (by simp)).trans (bx63 h x0 x1 x2 x3 x4 x5)
theorem sj63 (h j : AHeap) (x0 x1 x2 x3 x4 x5 y : Option ABlk) : (h ++ [x0] ++ [x1] ++ [x2] ++ [x3] ++ [x4] ++ [x5] ++ j).set (h.length + 1 + 1 + 1) y = h ++ [x0] ++ [x1] ++ [x2] ++ [y] ++ [x4] ++ [x5] ++ j :=
  (List.set_append_left _ _ (by simp)).trans (congrArg (· ++ j) (sx63 h x0 x1 x2 x3 x4 x5 y))
theorem bx64 (h : AHeap) (x0 x1 x2 x3 x4 x5 : Option ABlk) : (h ++ [x0] ++ [x1] ++ [x2] ++ [x3] ++ [x4] ++ [x5])[h.length + 1 + 1 + 1 + 1]? = some x4 := by
  simp [List.getElem?_append, Nat.add_assoc]
theorem sx64 (h : AHeap) (x0 x1 x2 x3 x4 x5 y : Option ABlk) : (h ++ [x0] ++ [x1] ++ [x2] ++ [x3] ++ [x4] ++ [x5]).set (h.length + 1 + 1 + 1 + 1) y = h ++ [x0] ++ [x1] ++ [x2] ++ [x3] ++ [y] ++ [x5] := by
  simp [Nat.add_assoc]
theorem bj64 (h j : AHeap) (x0 x1 x2 x3 x4 x5 : Option ABlk) : (h ++ [x0] ++ [x1] ++ [x2] ++ [x3] ++ [x4] ++ [x5] ++ j)[h.length + 1 + 1 + 1 + 1]? = some x4 :=
  (List.getElem?_append_left (by simp)).trans (bx64 h x0 x1 x2 x3 x4 x5)
theorem sj64 (h j : AHeap) (x0 x1 x2 x3 x4 x5 y : Option ABlk) : (h ++ [x0] ++ [x1] ++ [x2] ++ [x3] ++ [x4] ++ [x5] ++ j).set (h.length + 1 + 1 + 1 + 1) y = h ++ [x0] ++ [x1] ++ [x2] ++ [x3] ++ [y] ++ [x5] ++ j :=
  (List.set_append_left _ _ (by simp)).trans (congrArg (· ++ j) (sx64 h x0 x1 x2 x3 x4 x5 y))
theorem bx65 (h : AHeap) (x0 x1 x2 x3 x4 x5 : Option ABlk) : (h ++ [x0] ++ [x1] ++ [x2] ++ [x3] ++ [x4] ++ [x5])[h.length + 1 + 1 + 1 + 1 + 1]? = some x5 := by
  simp [List.getElem?_append, Nat.add_assoc]
theorem sx65 (h : AHeap) (x0 x1 x2 x3 x4 x5 y : Option ABlk) : (h ++ [x0] ++ [x1] ++ [x2] ++ [x3] ++ [x4] ++ [x5]).set (h.length + 1 + 1 + 1 + 1 + 1) y = h ++ [x0] ++ [x1] ++ [x2] ++ [x3] ++ [x4] ++ [y] := by
  simp [Nat.add_assoc]
theorem bj65 (h j : AHeap) (x0 x1 x2 x3 x4 x5 : Option ABlk) : (h ++ [x0] ++ [x1] ++ [x2] ++ [x3] ++ [x4] ++ [x5] ++ j)[h.length + 1 + 1 + 1 + 1 + 1]? = some x5 :=
  (List.getElem?_append_left (by simp)).trans (bx65 h x0 x1 x2 x3 x4 x5)
theorem sj65 (h j : AHeap) (x0 x1 x2 x3 x4 x5 y : Option ABlk) : (h ++ [x0] ++ [x1] ++ [x2] ++ [x3] ++ [x4] ++ [x5] ++ j).set (h.length + 1 + 1 + 1 + 1 + 1) y = h ++ [x0] ++ [x1] ++ [x2] ++ [x3] ++ [x4] ++ [y] ++ j :=
  (List.set_append_left _ _ (by simp)).trans (congrArg (· ++ j) (sx65 h x0 x1 x2 x3 x4 x5 y))
theorem bx70 (h : AHeap) (x0 x1 x2 x3 x4 x5 x6 : Option ABlk) : (h ++ [x0] ++ [x1] ++ [x2] ++ [x3] ++ [x4] ++ [x5] ++ [x6])[h.length]? = some x0 := by
  simp [List.getElem?_append, Nat.add_assoc]
theorem sx70 (h : AHeap) (x0 x1 x2 x3 x4 x5 x6 y : Option ABlk) : (h ++ [x0] ++ [x1] ++ [x2] ++ [x3] ++ [x4] ++ [x5] ++ [x6]).set (h.length) y = h ++ [y] ++ [x1] ++ [x2] ++ [x3] ++ [x4] ++ [x5] ++ [x6] := by
  simp [Nat.add_assoc]
theorem bj70 (h j : AHeap) (x0 x1 x2 x3 x4 x5 x6 : Option ABlk) : (h ++ [x0] ++ [x1] ++ [x2] ++ [x3] ++ [x4] ++ [x5] ++ [x6] ++ j)[h.length]? = some x0 :=
  (List.getElem?_append_left (by simp)).trans (bx70 h x0 x1 x2 x3 x4 x5 x6)
theorem sj70 (h j : AHeap) (x0 x1 x2 x3 x4 x5 x6 y : Option ABlk) : (h ++ [x0] ++ [x1] ++ [x2] ++ [x3] ++ [x4] ++ [x5] ++ [x6] ++ j).set (h.length) y = h ++ [y] ++ [x1] ++ [x2] ++ [x3] ++ [x4] ++ [x5] ++ [x6] ++ j :=
  (List.set_append_left _ _ (by simp)).trans (congrArg (· ++ j) (sx70 h x0 x1 x2 x3 x4 x5 x6 y))
theorem bx71 (h : AHeap) (x0 x1 x2 x3 x4 x5 x6 : Option ABlk) : (h ++ [x0] ++ [x1] ++ [x2] ++ [x3] ++ [x4] ++ [x5] ++ [x6])[h.length + 1]? = some x1 := by
  simp [List.getElem?_append, Nat.add_assoc]
theorem sx71 (h : AHeap) (x0 x1 x2 x3 x4 x5 x6 y : Option ABlk) : (h ++ [x0] ++ [x1] ++ [x2] ++ [x3] ++ [x4] ++ [x5] ++ [x6]).set (h.length + 1) y = h ++ [x0] ++ [y] ++ [x2] ++ [x3] ++ [x4] ++ [x5] ++ [x6] := by
  simp [Nat.add_assoc]
theorem bj71 (h j : AHeap) (x0 x1 x2 x3 x4 x5 x6 : Option ABlk) : (h ++ [x0] ++ [x1] ++ [x2] ++ [x3] ++ [x4] ++ [x5] ++ [x6] ++ j)[h.length + 1]? = some x1 :=
  (List.getElem?_append_left (by simp)).trans (bx71 h x0 x1 x2 x3 x4 x5 x6)
theorem sj71 (h j : AHeap) (x0 x1 x2 x3 x4 x5 x6 y : Option ABlk) : (h ++ [x0] ++ [x1] ++ [x2] ++ [x3] ++ [x4] ++ [x5] ++ [x6] ++ j).set (h.length + 1) y = h ++ [x0] ++ [y] ++ [x2] ++ [x3] ++ [x4] ++ [x5] ++ [x6] ++ j :=
  (List.set_append_left _ _ (by simp)).trans (congrArg (· ++ j) (sx71 h x0 x1 x2 x3 x4 x5 x6 y))
theorem bx72 (h : AHeap) (x0 x1 x2 x3 x4 x5 x6 : Option ABlk) : (h ++ [x0] ++ [x1] ++ [x2] ++ [x3] ++ [x4] ++ [x5] ++ [x6])[h.length + 1 + 1]? = some x2 := by
  simp [List.getElem?_append, Nat.add_assoc]
theorem sx72 (h : AHeap) (x0 x1 x2 x3 x4 x5 x6 y : Option ABlk) : (h ++ [x0] ++ [x1] ++ [x2] ++ [x3] ++ [x4] ++ [x5] ++ [x6]).set (h.length + 1 + 1) y = h ++ [x0] ++ [x1] ++ [y] ++ [x3] ++ [x4] ++ [x5] ++ [x6] := by
  simp [Nat.add_assoc]
theorem bj72 (h j : AHeap) (x0 x1 x2 x3 x4 x5 x6 : Option ABlk) : (h ++ [x0] ++ [x1] ++ [x2] ++ [x3] ++ [x4] ++ [x5] ++ [x6] ++ j)[h.length + 1 + 1]? = some x2 :=
  (List.getElem?_append_left (by simp)).trans (bx72 h x0 x1 x2 x3 x4 x5 x6)
theorem sj72 (h j : AHeap) (x0 x1 x2 x3 x4 x5 x6 y : Option ABlk) : (h ++ [x0] ++ [x1] ++ [x2] ++ [x3] ++ [x4] ++ [x5] ++ [x6] ++ j).set (h.length + 1 + 1) y = h ++ [x0] ++ [x1] ++ [y] ++ [x3] ++ [x4] ++ [x5] ++ [x6] ++ j :=
  (List.set_append_left _ _ (by simp)).trans (congrArg (· ++ j) (sx72 h x0 x1 x2 x3 x4 x5 x6 y))
theorem bx73 (h : AHeap) (x0 x1 x2 x3 x4 x5 x6 : Option ABlk) : (h ++ [x0] ++ [x1] ++ [x2] ++ [x3] ++ [x4] ++ [x5] ++ [x6])[h.length + 1 + 1 + 1]? = some x3 := by
  simp [List.getElem?_append, Nat.add_assoc]
theorem sx73 (h : AHeap) (x0 x1 x2 x3 x4 x5 x6 y : Option ABlk) : (h ++ [x0] ++ [x1] ++ [x2] ++ [x3] ++ [x4] ++ [x5] ++ [x6]).set (h.length + 1 + 1 + 1) y = h ++ [x0] ++ [x1] ++ [x2] ++ [y] ++ [x4] ++ [x5] ++ [x6] := by
  simp [Nat.add_assoc]
theorem bj73 (h j : AHeap) (x0 x1 x2 x3 x4 x5 x6 : Option ABlk) : (h ++ [x0] ++ [x1] ++ [x2] ++ [x3] ++ [x4] ++ [x5] ++ [x6] ++ j)[h.length + 1 + 1 + 1]? = some x3 :=
  (List.getElem?_append_left (by simp)).trans (bx73 h x0 x1 x2 x3 x4 x5 x6)
theorem sj73 (h j : AHeap) (x0 x1 x2 x3 x4 x5 x6 y : Option ABlk) : (h ++ [x0] ++ [x1] ++ [x2] ++ [x3] ++ [x4] ++ [x5] ++ [x6] ++ j).set (h.length + 1 + 1 + 1) y = h ++ [x0] ++ [x1] ++ [x2] ++ [y] ++ [x4] ++ [x5] ++ [x6] ++ j :=
  (List.set_append_left _ _ (by simp)).trans (congrArg (· ++ j) (sx73 h x0 x1 x2 x3 x4 x5 x6 y))
theorem bx74 (h : AHeap) (x0 x1 x2 x3 x4 x5 x6 : Option ABlk) : (h ++ [x0] ++ [x1] ++ [x2] ++ [x3] ++ [x4] ++ [x5] ++ [x6])[h.length + 1 + 1 + 1 + 1]? = some x4 := by
  simp [List.getElem?_append, Nat.add_assoc]
theorem sx74 (h : AHeap) (x0 x1 x2 x3 x4 x5 x6 y : Option ABlk) : (h ++ [x0] ++ [x1] ++ [x2] ++ [x3] ++ [x4] ++ [x5] ++ [x6]).set (h.length + 1 + 1 + 1 + 1) y = h ++ [x0] ++ [x1] ++ [x2] ++ [x3] ++ [y] ++ [x5] ++ [x6] := by
  simp [Nat.add_assoc]
theorem bj74 (h j : AHeap) (x0 x1 x2 x3 x4 x5 x6 : Option ABlk) : (h ++ [x0] ++ [x1] ++ [x2] ++ [x3] ++ [x4] ++ [x5] ++ [x6] ++ j)[h.length + 1 + 1 + 1 + 1]? = some x4 :=
  (List.getElem?_append_left (by simp)).trans (bx74 h x0 x1 x2 x3 x4 x5 x6)
theorem sj74 (h j : AHeap) (x0 x1 x2 x3 x4 x5 x6 y : Option ABlk) : (h ++ [x0] ++ [x1] ++ [x2] ++ [x3] ++ [x4] ++ [x5] ++ [x6] ++ j).set (h.length + 1 + 1 + 1 + 1) y = h ++ [x0] ++ [x1] ++ [x2] ++ [x3] ++ [y] ++ [x5] ++ [x6] ++ j :=
  (List.set_append_left _ _ (by simp)).trans (congrArg (· ++ j) (sx74 h x0 x1 x2 x3 x4 x5 x6 y))
theorem bx75 (h : AHeap) (x0 x1 x2 x3 x4 x5 x6 : Option ABlk) : (h ++ [x0] ++ [x1] ++ [x2] ++ [x3] ++ [x4] ++ [x5] ++ [x6])[h.length + 1 + 1 + 1 + 1 + 1]? = some x5 := by
  simp [List.getElem?_append, Nat.add_assoc]
theorem sx75 (h : AHeap) (x0 x1 x2 x3 x4 x5 x6 y : Option ABlk) : (h ++ [x0] ++ [x1] ++ [x2] ++ [x3] ++ [x4] ++ [x5] ++ [x6]).set (h.length + 1 + 1 + 1 + 1 + 1) y = h ++ [x0] ++ [x1] ++ [x2] ++ [x3] ++ [x4] ++ [y] ++ [x6] := by
  simp [Nat.add_assoc]
theorem bj75 (h j : AHeap) (x0 x1 x2 x3 x4 x5 x6 : Option ABlk) : (h ++ [x0] ++ [x1] ++ [x2] ++ [x3] ++ [x4] ++ [x5] ++ [x6] ++ j)[h.length + 1 + 1 + 1 + 1 + 1]? = some x5 :=
  (List.getElem?_append_left (by simp)).trans (bx75 h x0 x1 x2 x3 x4 x5 x6)
theorem sj75 (h j : AHeap) (x0 x1 x2 x3 x4 x5 x6 y : Option ABlk) : (h ++ [x0] ++ [x1] ++ [x2] ++ [x3] ++ [x4] ++ [x5] ++ [x6] ++ j).set (h.length + 1 + 1 + 1 + 1 + 1) y = h ++ [x0] ++ [x1] ++ [x2] ++ [x3] ++ [x4] ++ [y] ++ [x6] ++ j :=
  (List.set_append_left _ _ (by simp)).trans (congrArg (· ++ j) (sx75 h x0 x1 x2 x3 x4 x5 x6 y))
theorem bx76 (h : AHeap) (x0 x1 x2 x3 x4 x5 x6 : Option ABlk) : (h ++ [x0] ++ [x1] ++ [x2] ++ [x3] ++ [x4] ++ [x5] ++ [x6])[h.length + 1 + 1 + 1 + 1 + 1 + 1]? = some x6 := by
  simp [List.getElem?_append, Nat.add_assoc]
theorem sx76 (h : AHeap) (x0 x1 x2 x3 x4 x5 x6 y : Option ABlk) : (h ++ [x0] ++ [x1] ++ [x2] ++ [x3] ++ [x4] ++ [x5] ++ [x6]).set (h.length + 1 + 1 + 1 + 1 + 1 + 1) y = h ++ [x0] ++ [x1] ++ [x2] ++ [x3] ++ [x4] ++ [x5] ++ [y] := by
  simp [Nat.add_assoc]
theorem bj76 (h j : AHeap) (x0 x1 x2 x3 x4 x5 x6 : Option ABlk) : (h ++ [x0] ++ [x1] ++ [x2] ++ [x3] ++ [x4] ++ [x5] ++ [x6] ++ j)[h.length + 1 + 1 + 1 + 1 + 1 + 1]? = some x6 :=
  (List.getElem?_append_left (by simp)).trans (bx76 h x0 x1 x2 x3 x4 x5 x6)
theorem sj76 (h j : AHeap) (x0 x1 x2 x3 x4 x5 x6 y : Option ABlk) : (h ++ [x0] ++ [x1] ++ [x2] ++ [x3] ++ [x4] ++ [x5] ++ [x6] ++ j).set (h.length + 1 + 1 + 1 + 1 + 1 + 1) y = h ++ [x0] ++ [x1] ++ [x2] ++ [x3] ++ [x4] ++ [x5] ++ [y] ++ j :=
  (List.set_append_left _ _ (by simp)).trans (congrArg (· ++ j) (sx76 h x0 x1 x2 x3 x4 x5 x6 y))
theorem bx80 (h : AHeap) (x0 x1 x2 x3 x4 x5 x6 x7 : Option ABlk) : (h ++ [x0] ++ [x1] ++ [x2] ++ [x3] ++ [x4] ++ [x5] ++ [x6] ++ [x7])[h.length]? = some x0 := by
  simp [List.getElem?_append, Nat.add_assoc]
theorem sx80 (h : AHeap) (x0 x1 x2 x3 x4 x5 x6 x7 y : Option ABlk) : (h ++ [x0] ++ [x1] ++ [x2] ++ [x3] ++ [x4] ++ [x5] ++ [x6] ++ [x7]).set (h.length) y = h ++ [y] ++ [x1] ++ [x2] ++ [x3] ++ [x4] ++ [x5] ++ [x6] ++ [x7] := by
  simp [Nat.add_assoc]
theorem bj80 (h j : AHeap) (x0 x1 x2 x3 x4 x5 x6 x7 : Option ABlk) : (h ++ [x0] ++ [x1] ++ [x2] ++ [x3] ++ [x4] ++ [x5] ++ [x6] ++ [x7] ++ j)[h.length]? = some x0 :=
  (List.getElem?_append_left (by simp)).trans (bx80 h x0 x1 x2 x3 x4 x5 x6 x7)
theorem sj80 (h j : AHeap) (x0 x1 x2 x3 x4 x5 x6 x7 y : Option ABlk) : (h ++ [x0] ++ [x1] ++ [x2] ++ [x3] ++ [x4] ++ [x5] ++ [x6] ++ [x7] ++ j).set (h.length) y = h ++ [y] ++ [x1] ++ [x2] ++ [x3] ++ [x4] ++ [x5] ++ [x6] ++ [x7] ++ j :=
  (List.set_append_left _ _ (by simp)).trans (congrArg (· ++ j) (sx80 h x0 x1 x2 x3 x4 x5 x6 x7 y))
theorem bx81 (h : AHeap) (x0 x1 x2 x3 x4 x5 x6 x7 : Option ABlk) : (h ++ [x0] ++ [x1] ++ [x2] ++ [x3] ++ [x4] ++ [x5] ++ [x6] ++ [x7])[h.length + 1]? = some x1 := by
  simp [List.getElem?_append, Nat.add_assoc]
theorem sx81 (h : AHeap) (x0 x1 x2 x3 x4 x5 x6 x7 y : Option ABlk) : (h ++ [x0] ++ [x1] ++ [x2] ++ [x3] ++ [x4] ++ [x5] ++ [x6] ++ [x7]).set (h.length + 1) y = h ++ [x0] ++ [y] ++ [x2] ++ [x3] ++ [x4] ++ [x5] ++ [x6] ++ [x7] := by
  simp [Nat.add_assoc]
theorem bj81 (h j : AHeap) (x0 x1 x2 x3 x4 x5 x6 x7 : Option ABlk) : (h ++ [x0] ++ [x1] ++ [x2] ++ [x3] ++ [x4] ++ [x5] ++ [x6] ++ [x7] ++ j)[h.length + 1]? = some x1 :=
  (List.getElem?_append_left (by simp)).trans (bx81 h x0 x1 x2 x3 x4 x5 x6 x7)
theorem sj81 (h j : AHeap) (x0 x1 x2 x3 x4 x5 x6 x7 y : Option ABlk) : (h ++ [x0] ++ [x1] ++ [x2] ++ [x3] ++ [x4] ++ [x5] ++ [x6] ++ [x7] ++ j).set (h.length + 1) y = h ++ [x0] ++ [y] ++ [x2] ++ [x3] ++ [x4] ++ [x5] ++ [x6] ++ [x7] ++ j :=
  (List.set_append_left _ _ (by simp)).trans (congrArg (· ++ j) (sx81 h x0 x1 x2 x3 x4 x5 x6 x7 y))
theorem bx82 (h : AHeap) (x0 x1 x2 x3 x4 x5 x6 x7 : Option ABlk) : (h ++ [x0] ++ [x1] ++ [x2] ++ [x3] ++ [x4] ++ [x5] ++ [x6] ++ [x7])[h.length + 1 + 1]? = some x2 := by
  simp [List.getElem?_append, Nat.add_assoc]
theorem sx82 (h : AHeap) (x0 x1 x2 x3 x4 x5 x6 x7 y : Option ABlk) : (h ++ [x0] ++ [x1] ++ [x2] ++ [x3] ++ [x4] ++ [x5] ++ [x6] ++ [x7]).set (h.length + 1 + 1) y = h ++ [x0] ++ [x1] ++ [y] ++ [x3] ++ [x4] ++ [x5] ++ [x6] ++ [x7] := by
  simp [Nat.add_assoc]
theorem bj82 (h j : AHeap) (x0 x1 x2 x3 x4 x5 x6 x7 : Option ABlk) : (h ++ [x0] ++ [x1] ++ [x2] ++ [x3] ++ [x4] ++ [x5] ++ [x6] ++ [x7] ++ j)[h.length + 1 + 1]? = some x2 :=
  (List.getElem?_append_left (by simp)).trans (bx82 h x0 x1 x2 x3 x4 x5 x6 x7)
theorem sj82 (h j : AHeap) (x0 x1 x2 x3 x4 x5 x6 x7 y : Option ABlk) : (h ++ [x0] ++ [x1] ++ [x2] ++ [x3] ++ [x4] ++ [x5] ++ [x6] ++ [x7] ++ j).set (h.length + 1 + 1) y = h ++ [x0] ++ [x1] ++ [y] ++ [x3] ++ [x4] ++ [x5] ++ [x6] ++ [x7] ++ j :=
  (List.set_append_left _ _ (by simp)).trans (congrArg (· ++ j) (sx82 h x0 x1 x2 x3 x4 x5 x6 x7 y))
theorem bx83 (h : AHeap) (x0 x1 x2 x3 x4 x5 x6 x7 : Option ABlk) : (h ++ [x0] ++ [x1] ++ [x2] ++ [x3] ++ [x4] ++ [x5] ++ [x6] ++ [x7])[h.length + 1 + 1 + 1]? = some x3 := by
  simp [List.getElem?_append, Nat.add_assoc]
theorem sx83 (h : AHeap) (x0 x1 x2 x3 x4 x5 x6 x7 y : Option ABlk) : (h ++ [x0] ++ [x1] ++ [x2] ++ [x3] ++ [x4] ++ [x5] ++ [x6] ++ [x7]).set (h.length + 1 + 1 + 1) y = h ++ [x0] ++ [x1] ++ [x2] ++ [y] ++ [x4] ++ [x5] ++ [x6] ++ [x7] := by
  simp [Nat.add_assoc]
theorem bj83 (h j : AHeap) (x0 x1 x2 x3 x4 x5 x6 x7 : Option ABlk) : (h ++ [x0] ++ [x1] ++ [x2] ++ [x3] ++ [x4] ++ [x5] ++ [x6] ++ [x7] ++ j)[h.length + 1 + 1 + 1]? = some x3 :=
  (List.getElem?_append_left (by simp)).trans (bx83 h x0 x1 x2 x3 x4 x5 x6 x7)
theorem sj83 (h j : AHeap) (x0 x1 x2 x3 x4 x5 x6 x7 y : Option ABlk) : (h ++ [x0] ++ [x1] ++ [x2] ++ [x3] ++ [x4] ++ [x5] ++ [x6] ++ [x7] ++ j).set (h.length + 1 + 1 + 1) y = h ++ [x0] ++ [x1] ++ [x2] ++ [y] ++ [x4] ++ [x5] ++ [x6] ++ [x7] ++ j :=
  (List.set_append_left _ _ (by simp)).trans (congrArg (· ++ j) (sx83 h x0 x1 x2 x3 x4 x5 x6 x7 y))
theorem bx84 (h : AHeap) (x0 x1 x2 x3 x4 x5 x6 x7 : Option ABlk) : (h ++ [x0] ++ [x1] ++ [x2] ++ [x3] ++ [x4] ++ [x5] ++ [x6] ++ [x7])[h.length + 1 + 1 + 1 + 1]? = some x4 := by
  simp [List.getElem?_append, Nat.add_assoc]
theorem sx84 (h : AHeap) (x0 x1 x2 x3 x4 x5 x6 x7 y : Option ABlk) : (h ++ [x0] ++ [x1] ++ [x2] ++ [x3] ++ [x4] ++ [x5] ++ [x6] ++ [x7]).set (h.length + 1 + 1 + 1 + 1) y = h ++ [x0] ++ [x1] ++ [x2] ++ [x3] ++ [y] ++ [x5] ++ [x6] ++ [x7] := by
  simp [Nat.add_assoc]
theorem bj84 (h j : AHeap) (x0 x1 x2 x3 x4 x5 x6 x7 : Option ABlk) : (h ++ [x0] ++ [x1] ++ [x2] ++ [x3] ++ [x4] ++ [x5] ++ [x6] ++ [x7] ++ j)[h.length + 1 + 1 + 1 + 1]? = some x4 :=
  (List.getElem?_append_left (by simp)).trans (bx84 h x0 x1 x2 x3 x4 x5 x6 x7)
theorem sj84 (h j : AHeap) (x0 x1 x2 x3 x4 x5 x6 x7 y : Option ABlk) : (h ++ [x0] ++ [x1] ++ [x2] ++ [x3] ++ [x4] ++ [x5] ++ [x6] ++ [x7] ++ j).set (h.length + 1 + 1 + 1 + 1) y = h ++ [x0] ++ [x1] ++ [x2] ++ [x3] ++ [y] ++ [x5] ++ [x6] ++ [x7] ++ j :=
  (List.set_append_left _ _ (by simp)).trans (congrArg (· ++ j) (sx84 h x0 x1 x2 x3 x4 x5 x6 x7 y))
theorem bx85 (h : AHeap) (x0 x1 x2 x3 x4 x5 x6 x7 : Option ABlk) : (h ++ [x0] ++ [x1] ++ [x2] ++ [x3] ++ [x4] ++ [x5] ++ [x6] ++ [x7])[h.length + 1 + 1 + 1 + 1 + 1]? = some x5 := by
  simp [List.getElem?_append, Nat.add_assoc]
theorem sx85 (h : AHeap) (x0 x1 x2 x3 x4 x5 x6 x7 y : Option ABlk) : (h ++ [x0] ++ [x1] ++ [x2] ++ [x3] ++ [x4] ++ [x5] ++ [x6] ++ [x7]).set (h.length + 1 + 1 + 1 + 1 + 1) y = h ++ [x0] ++ [x1] ++ [x2] ++ [x3] ++ [x4] ++ [y] ++ [x6] ++ [x7] := by
  simp [Nat.add_assoc]
theorem bj85 (h j : AHeap) (x0 x1 x2 x3 x4 x5 x6 x7 : Option ABlk) : (h ++ [x0] ++ [x1] ++ [x2] ++ [x3] ++ [x4] ++ [x5] ++ [x6] ++ [x7] ++ j)[h.length + 1 + 1 + 1 + 1 + 1]? = some x5 :=
  (List.getElem?_append_left (by simp)).trans (bx85 h x0 x1 x2 x3 x4 x5 x6 x7)
theorem sj85 (h j : AHeap) (x0 x1 x2 x3 x4 x5 x6 x7 y : Option ABlk) : (h ++ [x0] ++ [x1] ++ [x2] ++ [x3] ++ [x4] ++ [x5] ++ [x6] ++ [x7] ++ j).set (h.length + 1 + 1 + 1 + 1 + 1) y = h ++ [x0] ++ [x1] ++ [x2] ++ [x3] ++ [x4] ++ [y] ++ [x6] ++ [x7] ++ j :=
  (List.set_append_left _ _ (by simp)).trans (congrArg (· ++ j) (sx85 h x0 x1 x2 x3 x4 x5 x6 x7 y))
theorem bx86 (h : AHeap) (x0 x1 x2 x3 x4 x5 x6 x7 : Option ABlk) : (h ++ [x0] ++ [x1] ++ [x2] ++ [x3] ++ [x4] ++ [x5] ++ [x6] ++ [x7])[h.length + 1 + 1 + 1 + 1 + 1 + 1]? = some x6 := by
  simp [List.getElem?_append, Nat.add_assoc]
theorem sx86 (h : AHeap) (x0 x1 x2 x3 x4 x5 x6 x7 y : Option ABlk) : (h ++ [x0] ++ [x1] ++ [x2] ++ [x3] ++ [x4] ++ [x5] ++ [x6] ++ [x7]).set (h.length + 1 + 1 + 1 + 1 + 1 + 1) y = h ++ [x0] ++ [x1] ++ [x2] ++ [x3] ++ [x4] ++ [x5] ++ [y] ++ [x7] := by
  simp [Nat.add_assoc]
theorem bj86 (h j : AHeap) (x0 x1 x2 x3 x4 x5 x6 x7 : Option ABlk) : (h ++ [x0] ++ [x1] ++ [x2] ++ [x3] ++ [x4] ++ [x5] ++ [x6] ++ [x7] ++ j)[h.length + 1 + 1 + 1 + 1 + 1 + 1]? = some x6 :=
  (List.getElem?_append_left (by simp)).trans (bx86 h x0 x1 x2 x3 x4 x5 x6 x7)
theorem sj86 (h j : AHeap) (x0 x1 x2 x3 x4 x5 x6 x7 y : Option ABlk) : (h ++ [x0] ++ [x1] ++ [x2] ++ [x3] ++ [x4] ++ [x5] ++ [x6] ++ [x7] ++ j).set (h.length + 1 + 1 + 1 + 1 + 1 + 1) y = h ++ [x0] ++ [x1] ++ [x2] ++ [x3] ++ [x4] ++ [x5] ++ [y] ++ [x7] ++ j :=
  (List.set_append_left _ _ (by simp)).trans (congrArg (· ++ j) (sx86 h x0 x1 x2 x3 x4 x5 x6 x7 y))
theorem bx87 (h : AHeap) (x0 x1 x2 x3 x4 x5 x6 x7 : Option ABlk) : (h ++ [x0] ++ [x1] ++ [x2] ++ [x3] ++ [x4] ++ [x5] ++ [x6] ++ [x7])[h.length + 1 + 1 + 1 + 1 + 1 + 1 + 1]? = some x7 := by
  simp [List.getElem?_append, Nat.add_assoc]
theorem sx87 (h : AHeap) (x0 x1 x2 x3 x4 x5 x6 x7 y : Option ABlk) : (h ++ [x0] ++ [x1] ++ [x2] ++ [x3] ++ [x4] ++ [x5] ++ [x6] ++ [x7]).set (h.length + 1 + 1 + 1 + 1 + 1 + 1 + 1) y = h ++ [x0] ++ [x1] ++ [x2] ++ [x3] ++ [x4] ++ [x5] ++ [x6] ++ [y] := by
  simp [Nat.add_assoc]
theorem bj87 (h j : AHeap) (x0 x1 x2 x3 x4 x5 x6 x7 : Option ABlk) : (h ++ [x0] ++ [x1] ++ [x2] ++ [x3] ++ [x4] ++ [x5] ++ [x6] ++ [x7] ++ j)[h.length + 1 + 1 + 1 + 1 + 1 + 1 + 1]? = some x7 :=
  (List.getElem?_append_left (by simp)).trans (bx87 h x0 x1 x2 x3 x4 x5 x6 x7)
theorem sj87 (h j : AHeap) (x0 x1 x2 x3 x4 x5 x6 x7 y : Option ABlk) : (h ++ [x0] ++ [x1] ++ [x2] ++ [x3] ++ [x4] ++ [x5] ++ [x6] ++ [x7] ++ j).set (h.length + 1 + 1 + 1 + 1 + 1 + 1 + 1) y = h ++ [x0] ++ [x1] ++ [x2] ++ [x3] ++ [x4] ++ [x5] ++ [x6] ++ [y] ++ j :=
  (List.set_append_left _ _ (by simp)).trans (congrArg (· ++ j) (sx87 h x0 x1 x2 x3 x4 x5 x6 x7 y))
theorem bx90 (h : AHeap) (x0 x1 x2 x3 x4 x5 x6 x7 x8 : Option ABlk) : (h ++ [x0] ++ [x1] ++ [x2] ++ [x3] ++ [x4] ++ [x5] ++ [x6] ++ [x7] ++ [x8])[h.length]? = some x0 := by
  simp [List.getElem?_append, Nat.add_assoc]
theorem sx90 (h : AHeap) (x0 x1 x2 x3 x4 x5 x6 x7 x8 y : Option ABlk) : (h ++ [x0] ++ [x1] ++ [x2] ++ [x3] ++ [x4] ++ [x5] ++ [x6] ++ [x7] ++ [x8]).set (h.length) y = h ++ [y] ++ [x1] ++ [x2] ++ [x3] ++ [x4] ++ [x5] ++ [x6] ++ [x7] ++ [x8] := by
  simp [Nat.add_assoc]
theorem bj90 (h j : AHeap) (x0 x1 x2 x3 x4 x5 x6 x7 x8 : Option ABlk) : (h ++ [x0] ++ [x1] ++ [x2] ++ [x3] ++ [x4] ++ [x5] ++ [x6] ++ [x7] ++ [x8] ++ j)[h.length]? = some x0 :=
  (List.getElem?_append_left (by simp)).trans (bx90 h x0 x1 x2 x3 x4 x5 x6 x7 x8)
theorem sj90 (h j : AHeap) (x0 x1 x2 x3 x4 x5 x6 x7 x8 y : Option ABlk) : (h ++ [x0] ++ [x1] ++ [x2] ++ [x3] ++ [x4] ++ [x5] ++ [x6] ++ [x7] ++ [x8] ++ j).set (h.length) y = h ++ [y] ++ [x1] ++ [x2] ++ [x3] ++ [x4] ++ [x5] ++ [x6] ++ [x7] ++ [x8] ++ j :=
  (List.set_append_left _ _ (by simp)).trans (congrArg (· ++ j) (sx90 h x0 x1 x2 x3 x4 x5 x6 x7 x8 y))
theorem bx91 (h : AHeap) (x0 x1 x2 x3 x4 x5 x6 x7 x8 : Option ABlk) : (h ++ [x0] ++ [x1] ++ [x2] ++ [x3] ++ [x4] ++ [x5] ++ [x6] ++ [x7] ++ [x8])[h.length + 1]? = some x1 := by
  simp [List.getElem?_append, Nat.add_assoc]
theorem sx91 (h : AHeap) (x0 x1 x2 x3 x4 x5 x6 x7 x8 y : Option ABlk) : (h ++ [x0] ++ [x1] ++ [x2] ++ [x3] ++ [x4] ++ [x5] ++ [x6] ++ [x7] ++ [x8]).set (h.length + 1) y = h ++ [x0] ++ [y] ++ [x2] ++ [x3] ++ [x4] ++ [x5] ++ [x6] ++ [x7] ++ [x8] := by
  simp [Nat.add_assoc]
theorem bj91 (h j : AHeap) (x0 x1 x2 x3 x4 x5 x6 x7 x8 : Option ABlk) : (h ++ [x0] ++ [x1] ++ [x2] ++ [x3] ++ [x4] ++ [x5] ++ [x6] ++ [x7] ++ [x8] ++ j)[h.length + 1]? = some x1 :=
  (List.getElem?_append_left (by simp)).trans (bx91 h x0 x1 x2 x3 x4 x5 x6 x7 x8)
theorem sj91 (h j : AHeap) (x0 x1 x2 x3 x4 x5 x6 x7 x8 y : Option ABlk) : (h ++ [x0] ++ [x1] ++ [x2] ++ [x3] ++ [x4] ++ [x5] ++ [x6] ++ [x7] ++ [x8] ++ j).set (h.length + 1) y = h ++ [x0] ++ [y] ++ [x2] ++ [x3] ++ [x4] ++ [x5] ++ [x6] ++ [x7] ++ [x8] ++ j :=
  (List.set_append_left _ _ (by simp)).trans (congrArg (· ++ j) (sx91 h x0 x1 x2 x3 x4 x5 x6 x7 x8 y))
theorem bx92 (h : AHeap) (x0 x1 x2 x3 x4 x5 x6 x7 x8 : Option ABlk) : (h ++ [x0] ++ [x1] ++ [x2] ++ [x3] ++ [x4] ++ [x5] ++ [x6] ++ [x7] ++ [x8])[h.length + 1 + 1]? = some x2 := by
  simp [List.getElem?_append, Nat.add_assoc]
theorem sx92 (h : AHeap) (x0 x1 x2 x3 x4 x5 x6 x7 x8 y : Option ABlk) : (h ++ [x0] ++ [x1] ++ [x2] ++ [x3] ++ [x4] ++ [x5] ++ [x6] ++ [x7] ++ [x8]).set (h.length + 1 + 1) y = h ++ [x0] ++ [x1] ++ [y] ++ [x3] ++ [x4] ++ [x5] ++ [x6] ++ [x7] ++ [x8] := by
  simp [Nat.add_assoc]
theorem bj92 (h j : AHeap) (x0 x1 x2 x3 x4 x5 x6 x7 x8 : Option ABlk) : (h ++ [x0] ++ [x1] ++ [x2] ++ [x3] ++ [x4] ++ [x5] ++ [x6] ++ [x7] ++ [x8] ++ j)[h.length + 1 + 1]? = some x2 :=
  (List.getElem?_append_left (by simp)).trans (bx92 h x0 x1 x2 x3 x4 x5 x6 x7 x8)
theorem sj92 (h j : AHeap) (x0 x1 x2 x3 x4 x5 x6 x7 x8 y : Option ABlk) : (h ++ [x0] ++ [x1] ++ [x2] ++ [x3] ++ [x4] ++ [x5] ++ [x6] ++ [x7] ++ [x8] ++ j).set (h.length + 1 + 1) y = h ++ [x0] ++ [x1] ++ [y] ++ [x3] ++ [x4] ++ [x5] ++ [x6] ++ [x7] ++ [x8] ++ j :=
  (List.set_append_left _ _ (by simp)).trans (congrArg (· ++ j) (sx92 h x0 x1 x2 x3 x4 x5 x6 x7 x8 y))
theorem bx93 (h : AHeap) (x0 x1 x2 x3 x4 x5 x6 x7 x8 : Option ABlk) : (h ++ [x0] ++ [x1] ++ [x2] ++ [x3] ++ [x4] ++ [x5] ++ [x6] ++ [x7] ++ [x8])[h.length + 1 + 1 + 1]? = some x3 := by
  simp [List.getElem?_append, Nat.add_assoc]
theorem sx93 (h : AHeap) (x0 x1 x2 x3 x4 x5 x6 x7 x8 y : Option ABlk) : (h ++ [x0] ++ [x1] ++ [x2] ++ [x3] ++ [x4] ++ [x5] ++ [x6] ++ [x7] ++ [x8]).set (h.length + 1 + 1 + 1) y = h ++ [x0] ++ [x1] ++ [x2] ++ [y] ++ [x4] ++ [x5] ++ [x6] ++ [x7] ++ [x8] := by
  simp [Nat.add_assoc]
theorem bj93 (h j : AHeap) (x0 x1 x2 x3 x4 x5 x6 x7 x8 : Option ABlk) : (h ++ [x0] ++ [x1] ++ [x2] ++ [x3] ++ [x4] ++ [x5] ++ [x6] ++ [x7] ++ [x8] ++ j)[h.length + 1 + 1 + 1]? = some x3 :=
  (List.getElem?_append_left (by simp)).trans (bx93 h x0 x1 x2 x3 x4 x5 x6 x7 x8)
theorem sj93 (h j : AHeap) (x0 x1 x2 x3 x4 x5 x6 x7 x8 y : Option ABlk) : (h ++ [x0] ++ [x1] ++ [x2] ++ [x3] ++ [x4] ++ [x5] ++ [x6] ++ [x7] ++ [x8] ++ j).set (h.length + 1 + 1 + 1) y = h ++ [x0] ++ [x1] ++ [x2] ++ [y] ++ [x4] ++ [x5] ++ [x6] ++ [x7] ++ [x8] ++ j :=
  (List.set_append_left _ _ (by simp)).trans (congrArg (· ++ j) (sx93 h x0 x1 x2 x3 x4 x5 x6 x7 x8 y))
theorem bx94 (h : AHeap) (x0 x1 x2 x3 x4 x5 x6 x7 x8 : Option ABlk) : (h ++ [x0] ++ [x1] ++ [x2] ++ [x3] ++ [x4] ++ [x5] ++ [x6] ++ [x7] ++ [x8])[h.length + 1 + 1 + 1 + 1]? = some x4 := by
  simp [List.getElem?_append, Nat.add_assoc]
theorem sx94 (h : AHeap) (x0 x1 x2 x3 x4 x5 x6 x7 x8 y : Option ABlk) : (h ++ [x0] ++ [x1] ++ [x2] ++ [x3] ++ [x4] ++ [x5] ++ [x6] ++ [x7] ++ [x8]).set (h.length + 1 + 1 + 1 + 1) y = h ++ [x0] ++ [x1] ++ [x2] ++ [x3] ++ [y] ++ [x5] ++ [x6] ++ [x7] ++ [x8] := by
  simp [Nat.add_assoc]
theorem bj94 (h j : AHeap) (x0 x1 x2 x3 x4 x5 x6 x7 x8 : Option ABlk) : (h ++ [x0] ++ [x1] ++ [x2] ++ [x3] ++ [x4] ++ [x5] ++ [x6] ++ [x7] ++ [x8] ++ j)[h.length + 1 + 1 + 1 + 1]? = some x4 :=
  (List.getElem?_append_left (by simp)).trans (bx94 h x0 x1 x2 x3 x4 x5 x6 x7 x8)
theorem sj94 (h j : AHeap) (x0 x1 x2 x3 x4 x5 x6 x7 x8 y : Option ABlk) : (h ++ [x0] ++ [x1] ++ [x2] ++ [x3] ++ [x4] ++ [x5] ++ [x6] ++ [x7] ++ [x8] ++ j).set (h.length + 1 + 1 + 1 + 1) y = h ++ [x0] ++ [x1] ++ [x2] ++ [x3] ++ [y] ++ [x5] ++ [x6] ++ [x7] ++ [x8] ++ j :=
  (List.set_append_left _ _ (by simp)).trans (congrArg (· ++ j) (sx94 h x0 x1 x2 x3 x4 x5 x6 x7 x8 y))
theorem bx95 (h : AHeap) (x0 x1 x2 x3 x4 x5 x6 x7 x8 : Option ABlk) : (h ++ [x0] ++ [x1] ++ [x2] ++ [x3] ++ [x4] ++ [x5] ++ [x6] ++ [x7] ++ [x8])[h.length + 1 + 1 + 1 + 1 + 1]? = some x5 := by
  simp [List.getElem?_append, Nat.add_assoc]
theorem sx95 (h : AHeap) (x0 x1 x2 x3 x4 x5 x6 x7 x8 y : Option ABlk) : (h ++ [x0] ++ [x1] ++ [x2] ++ [x3] ++ [x4] ++ [x5] ++ [x6] ++ [x7] ++ [x8]).set (h.length + 1 + 1 + 1 + 1 + 1) y = h ++ [x0] ++ [x1] ++ [x2] ++ [x3] ++ [x4] ++ [y] ++ [x6] ++ [x7] ++ [x8] := by
  simp [Nat.add_assoc]
theorem bj95 (h j : AHeap) (x0 x1 x2 x3 x4 x5 x6 x7 x8 : Option ABlk) : (h ++ [x0] ++ [x1] ++ [x2] ++ [x3] ++ [x4] ++ [x5] ++ [x6] ++ [x7] ++ [x8] ++ j)[h.length + 1 + 1 + 1 + 1 + 1]? = some x5 :=
  (List.getElem?_append_left (by simp)).trans (bx95 h x0 x1 x2 x3 x4 x5 x6 x7 x8)
theorem sj95 (h j : AHeap) (x0 x1 x2 x3 x4 x5 x6 x7 x8 y : Option ABlk) : (h ++ [x0] ++ [x1] ++ [x2] ++ [x3] ++ [x4] ++ [x5] ++ [x6] ++ [x7] ++ [x8] ++ j).set (h.length + 1 + 1 + 1 + 1 + 1) y = h ++ [x0] ++ [x1] ++ [x2] ++ [x3] ++ [x4] ++ [y] ++ [x6] ++ [x7] ++ [x8] ++ j :=
  (List.set_append_left _ _ (by simp)).trans (congrArg (· ++ j) (sx95 h x0 x1 x2 x3 x4 x5 x6 x7 x8 y))
theorem bx96 (h : AHeap) (x0 x1 x2 x3 x4 x5 x6 x7 x8 : Option ABlk) : (h ++ [x0] ++ [x1] ++ [x2] ++ [x3] ++ [x4] ++ [x5] ++ [x6] ++ [x7] ++ [x8])[h.length + 1 + 1 + 1 + 1 + 1 + 1]? = some x6 := by
  simp [List.getElem?_append, Nat.add_assoc]
theorem sx96 (h : AHeap) (x0 x1 x2 x3 x4 x5 x6 x7 x8 y : Option ABlk) : (h ++ [x0] ++ [x1] ++ [x2] ++ [x3] ++ [x4] ++ [x5] ++ [x6] ++ [x7] ++ [x8]).set (h.length + 1 + 1 + 1 + 1 + 1 + 1) y = h ++ [x0] ++ [x1] ++ [x2] ++ [x3] ++ [x4] ++ [x5] ++ [y] ++ [x7] ++ [x8] := by
  simp [Nat.add_assoc]
theorem bj96 (h j : AHeap) (x0 x1 x2 x3 x4 x5 x6 x7 x8 : Option ABlk) : (h ++ [x0] ++ [x1] ++ [x2] ++ [x3] ++ [x4] ++ [x5] ++ [x6] ++ [x7] ++ [x8] ++ j)[h.length + 1 + 1 + 1 + 1 + 1 + 1]? = some x6 :=
  (List.getElem?_append_left (by simp)).trans (bx96 h x0 x1 x2 x3 x4 x5 x6 x7 x8)
theorem sj96 (h j : AHeap) (x0 x1 x2 x3 x4 x5 x6 x7 x8 y : Option ABlk) : (h ++ [x0] ++ [x1] ++ [x2] ++ [x3] ++ [x4] ++ [x5] ++ [x6] ++ [x7] ++ [x8] ++ j).set (h.length + 1 + 1 + 1 + 1 + 1 + 1) y = h ++ [x0] ++ [x1] ++ [x2] ++ [x3] ++ [x4] ++ [x5] ++ [y] ++ [x7] ++ [x8] ++ j :=
  (List.set_append_left _ _ (by simp)).trans (congrArg (· ++ j) (sx96 h x0 x1 x2 x3 x4 x5 x6 x7 x8 y))
theorem bx97 (h : AHeap) (x0 x1 x2 x3 x4 x5 x6 x7 x8 : Option ABlk) : (h ++ [x0] ++ [x1] ++ [x2] ++ [x3] ++ [x4] ++ [x5] ++ [x6] ++ [x7] ++ [x8])[h.length + 1 + 1 + 1 + 1 + 1 + 1 + 1]? = some x7 := by
  simp [List.getElem?_append, Nat.add_assoc]
theorem sx97 (h : AHeap) (x0 x1 x2 x3 x4 x5 x6 x7 x8 y : Option ABlk) : (h ++ [x0] ++ [x1] ++ [x2] ++ [x3] ++ [x4] ++ [x5] ++ [x6] ++ [x7] ++ [x8]).set (h.length + 1 + 1 + 1 + 1 + 1 + 1 + 1) y = h ++ [x0] ++ [x1] ++ [x2] ++ [x3] ++ [x4] ++ [x5] ++ [x6] ++ [y] ++ [x8] := by
  simp [Nat.add_assoc]
theorem bj97 (h j : AHeap) (x0 x1 x2 x3 x4 x5 x6 x7 x8 : Option ABlk) : (h ++ [x0] ++ [x1] ++ [x2] ++ [x3] ++ [x4] ++ [x5] ++ [x6] ++ [x7] ++ [x8] ++ j)[h.length + 1 + 1 + 1 + 1 + 1 + 1 + 1]? = some x7 :=
  (List.getElem?_append_left (by simp)).trans (bx97 h x0 x1 x2 x3 x4 x5 x6 x7 x8)
theorem sj97 (h j : AHeap) (x0 x1 x2 x3 x4 x5 x6 x7 x8 y : Option ABlk) : (h ++ [x0] ++ [x1] ++ [x2] ++ [x3] ++ [x4] ++ [x5] ++ [x6] ++ [x7] ++ [x8] ++ j).set (h.length + 1 + 1 + 1 + 1 + 1 + 1 + 1) y = h ++ [x0] ++ [x1] ++ [x2] ++ [x3] ++ [x4] ++ [x5] ++ [x6] ++ [y] ++ [x8] ++ j :=
  (List.set_append_left _ _ (by simp)).trans (congrArg (· ++ j) (sx97 h x0 x1 x2 x3 x4 x5 x6 x7 x8 y))
theorem bx98 (h : AHeap) (x0 x1 x2 x3 x4 x5 x6 x7 x8 : Option ABlk) : (h ++ [x0] ++ [x1] ++ [x2] ++ [x3] ++ [x4] ++ [x5] ++ [x6] ++ [x7] ++ [x8])[h.length + 1 + 1 + 1 + 1 + 1 + 1 + 1 + 1]? = some x8 := by
  simp [List.getElem?_append, Nat.add_assoc]
theorem sx98 (h : AHeap) (x0 x1 x2 x3 x4 x5 x6 x7 x8 y : Option ABlk) : (h ++ [x0] ++ [x1] ++ [x2] ++ [x3] ++ [x4] ++ [x5] ++ [x6] ++ [x7] ++ [x8]).set (h.length + 1 + 1 + 1 + 1 + 1 + 1 + 1 + 1) y = h ++ [x0] ++ [x1] ++ [x2] ++ [x3] ++ [x4] ++ [x5] ++ [x6] ++ [x7] ++ [y] := by
  simp [Nat.add_assoc]
theorem bj98 (h j : AHeap) (x0 x1 x2 x3 x4 x5 x6 x7 x8 : Option ABlk) : (h ++ [x0] ++ [x1] ++ [x2] ++ [x3] ++ [x4] ++ [x5] ++ [x6] ++ [x7] ++ [x8] ++ j)[h.length + 1 + 1 + 1 + 1 + 1 + 1 + 1 + 1]? = some x8 :=
  (List.getElem?_append_left (by simp)).trans (bx98 h x0 x1 x2 x3 x4 x5 x6 x7 x8)
theorem sj98 (h j : AHeap) (x0 x1 x2 x3 x4 x5 x6 x7 x8 y : Option ABlk) : (h ++ [x0] ++ [x1] ++ [x2] ++ [x3] ++ [x4] ++ [x5] ++ [x6] ++ [x7] ++ [x8] ++ j).set (h.length + 1 + 1 + 1 + 1 + 1 + 1 + 1 + 1) y = h ++ [x0] ++ [x1] ++ [x2] ++ [x3] ++ [x4] ++ [x5] ++ [x6] ++ [x7] ++ [y] ++ j :=
  (List.set_append_left _ _ (by simp)).trans (congrArg (· ++ j) (sx98 h x0 x1 x2 x3 x4 x5 x6 x7 x8 y))
theorem Ext.b5 {h : AHeap} (x0 x1 x2 x3 x4 : Option ABlk) : Ext nof h (h ++ [x0] ++ [x1] ++ [x2] ++ [x3] ++ [x4]) := by
  simpa using Ext.app nof h [x0, x1, x2, x3, x4]
theorem Ext.b6 {h : AHeap} (x0 x1 x2 x3 x4 x5 : Option ABlk) : Ext nof h (h ++ [x0] ++ [x1] ++ [x2] ++ [x3] ++ [x4] ++ [x5]) := by
  simpa using Ext.app nof h [x0, x1, x2, x3, x4, x5]
theorem Ext.b7 {h : AHeap} (x0 x1 x2 x3 x4 x5 x6 : Option ABlk) : Ext nof h (h ++ [x0] ++ [x1] ++ [x2] ++ [x3] ++ [x4] ++ [x5] ++ [x6]) := by
  simpa using Ext.app nof h [x0, x1, x2, x3, x4, x5, x6]

attribute [go_sem] bj10 sj10 bj20 sj20 bj21 sj21 bj30 sj30 bj31 sj31 bj32 sj32 bj40 sj40 bj41 sj41 bj42 sj42 bj43 sj43 bj50 sj50 bj51 sj51 bj52 sj52 bj53 sj53 bj54 sj54 bx60 sx60 bj60 sj60 bx61 sx61 bj61 sj61 bx62 sx62 bj62 sj62 bx63 sx63 bj63 sj63 bx64 sx64 bj64 sj64 bx65 sx65 bj65 sj65 bx70 sx70 bj70 sj70 bx71 sx71 bj71 sj71 bx72 sx72 bj72 sj72 bx73 sx73 bj73 sj73 bx74 sx74 bj74 sj74 bx75 sx75 bj75 sj75 bx76 sx76 bj76 sj76 bx80 sx80 bj80 sj80 bx81 sx81 bj81 sj81 bx82 sx82 bj82 sj82 bx83 sx83 bj83 sj83 bx84 sx84 bj84 sj84 bx85 sx85 bj85 sj85 bx86 sx86 bj86 sj86 bx87 sx87 bj87 sj87 bx90 sx90 bj90 sj90 bx91 sx91 bj91 sj91 bx92 sx92 bj92 sj92 bx93 sx93 bj93 sj93 bx94 sx94 bj94 sj94 bx95 sx95 bj95 sj95 bx96 sx96 bj96 sj96 bx97 sx97 bj97 sj97 bx98 sx98 bj98 sj98

end Glb
