/-
  The library's Clone of flows on a list without items, as it stands in this program.
-/
import Derived.Test.YtdeiamnhnfmilaaGreatChecked
import Derived.Tactics2
import Derived.Shelf.RegionOpenPlain
import Derived.WalkKit
import Derived.Deep.LoopGhost
import Derived.Lib.Walk
import Derived.Lib.SliceRun
namespace Go.Proofs.YtdeiamnhnfmilaaGreat
open Go Go.Proofs Go.RowKit Go.Lib
set_option maxHeartbeats 2000000 in
set_option maxRecDepth 100000 in
theorem fcloneZero (a:Addr)(c:Nat)(w:World):
  Calls Tryz.prog 163 #[.slice (some a) 0 c] w fun e w'=>∃v',e=.returned v'/\w'.ownsRow w.heap.size 117 4 v' 0 []/\v'≠.slice none 0 0/\Below w.heap.size w w':=by
 have t5:=Tryz.underlying117;have t32:=Tryz.underlying98;have hi5:(Tryz.prog.info? 117).map (fun i=>(i.zero,i.size,i.bytes))=some (some (Value.agg #[.int .i64 0,.int .i64 0,.int .i64 0,.int .i64 0]),4,32):=by kernel_rfl
 obtain⟨i0,hi,hz0,hz1,hz2⟩:=info_parts hi5;have q32:∀(w:World)(a:Option Addr)(n c n' c':Nat),(binOp .eql 98 (.slice a n c) (.slice none n' c')).run Tryz.prog w=.ok (.bool a.isNone) w:=fun w a n c n' c'=>Lib.run_eql_slice_nil w _ _ a n c n' c' t32;have u32:∀w,Sem.run Tryz.prog (underlying 98) w=.ok (TypeDesc.slice 117) w:=run_underlying t32;go_enter Tryz.func163,Tryz.ntmps163;go_wp2_with (at_builtin;refine wpList_append_own _ rfl _ _ 98 rfl w.heap.size 117 i0 (.agg #[.int .i64 0,.int .i64 0,.int .i64 0,.int .i64 0]) 4 32 t32 hi hz0 hz1 hz2 rfl (by decide) _ _ _ rfl (World.ownsRow_made w #[] 0 (Nat.le_refl _) (Nat.zero_le _) rfl) a 0 c [] rfl rfl (by intro j u hj;simp at hj) (by intro u hu;cases hu) (by unfold maxLen;omega) (by omega) (by simp) ?_);intro v' w1 hown hgrow hnil;go_wp2;go_ret;refine⟨v',rfl,by simpa using hown,?_,?_⟩;·first | exact hnil | (intro e;exact absurd (hnil.1 e).1 (by simp))
 ·exact ((Below.refl _ w).alloc (Nat.le_refl _) _).grown hgrow (by simp) (by intro k hk;simp[Value.ownBlock]at hk;omega)
end Go.Proofs.YtdeiamnhnfmilaaGreat
