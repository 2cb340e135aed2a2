/-
  A library of its own.
-/
import Derived.Test.YtdeiamnhnfmilaaGreatGlbInA
set_option linter.unusedSimpArgs false
set_option linter.unusedVariables false
set_option maxRecDepth 100000
namespace Glb
open Go
def M9_ (f_slices_Backward_api_Entry_api_Entry:FuncId)(f_image_GetConf:FuncId)(f_slices_Clone_int_int:FuncId):RFn:=⟨48,λs=>List.contains [0,1,2,3,4,5,6,7,8,12,13,14,17,25] s,(.seq (.calm (.reg [⟨(.loc 1),(.h (.box (.loc 0))),none⟩,
 ⟨(.loc 2),(.h (.mk [.nils,.nils,.nils])),none⟩,
 ⟨(.loc 3),(.h (.mk [(.int .i64 0)])),none⟩]))
 (.seq (.seq (.calm (.reg [⟨(.tmp 9),(.r (.off 3 (.loc 1))),none⟩,
 ⟨(.tmp 10),(.r (.off 2 (.tmp 9))),none⟩,
 ⟨(.tmp 11),(.r (.load false 1 (.tmp 10))),none⟩,
 ⟨(.loc 12),(.call f_slices_Backward_api_Entry_api_Entry [(.tmp 11)]),none⟩]))
 (.block 0 (.range (.loc 12) [13,14] (.seq (.reg [⟨(.loc 4),(.r (.mov (.loc 13))),none⟩])
 (.reg [⟨(.loc 5),(.h (.mk [(.int .i64 0),(.int .i64 0),.nils])),none⟩,
 ⟨.none,(.h (.store 3 (.loc 5) (.loc 14))),none⟩]))
 (.block 1 (.seq (.seq (.reg [⟨(.tmp 15),(.r (.off 1 (.loc 5))),none⟩,
 ⟨(.tmp 16),(.r (.load false 1 (.tmp 15))),none⟩,
 ⟨(.loc 17),(.r (.bin .neq (.tmp 16) (.cst (.int .i64 2)))),none⟩])
 (.cond (.loc 17) (.exit 1)
 .skip))
 (.seq (.reg [⟨(.tmp 19),(.r (.off 2 (.loc 5))),none⟩,
 ⟨(.tmp 20),(.r (.load false 1 (.tmp 19))),none⟩,
 ⟨(.tmp 21),(.call f_image_GetConf [(.tmp 20)]),none⟩,
 ⟨(.tmp 18),(.r (.mov (.tmp 21))),none⟩,
 ⟨(.tmp 22),(.r (.ext (.tmp 18) 0)),none⟩,
 ⟨(.tmp 23),(.r (.ext (.tmp 18) 1)),none⟩,
 ⟨(.loc 6),(.h (.mk [.nils,.nils,.nils])),none⟩,
 ⟨.none,(.h (.store 3 (.loc 6) (.tmp 22))),none⟩,
 ⟨(.loc 7),(.r (.mov (.tmp 23))),none⟩])
 (.seq (.reg [⟨(.tmp 24),(.r (.mov (.loc 7))),none⟩,
 ⟨(.loc 25),(.r (.bin .eql (.tmp 24) (.cst (.int .i64 0)))),none⟩])
 (.cond (.loc 25) (.seq (.dreg ⟨[0,0,2,6,14,0,62,1,255],0,[⟨0,0,false,(.r (.load true 3 (.loc 6))),none⟩,
 ⟨1,0,false,(.r (.off 3 (.loc 1))),none⟩,
 ⟨2,0,false,(.r (.off 0 (.tmp 1))),none⟩,
 ⟨3,0,false,(.r (.load false 1 (.tmp 2))),none⟩,
 ⟨4,0,false,(.r (.bin .add (.tmp 3) (.cst (.int .i64 1)))),none⟩,
 ⟨5,0,false,(.r (.mov (.loc 4))),none⟩,
 ⟨6,0,false,(.r (.bin .add (.tmp 4) (.tmp 5))),none⟩,
 ⟨7,0,true,(.h (.store 3 (.loc 2) (.tmp 0))),none⟩,
 ⟨8,0,true,(.h (.store 1 (.loc 3) (.tmp 6))),none⟩],[]⟩)
 .ret)
 .skip))))))))
 (.calm (.seq (.reg [⟨(.tmp 33),(.r (.off 6 (.loc 1))),none⟩,
 ⟨(.tmp 34),(.r (.load true 3 (.tmp 33))),none⟩,
 ⟨(.loc 8),(.h (.mk [.nils,.nils,.nils])),none⟩,
 ⟨.none,(.h (.store 3 (.loc 8) (.tmp 34))),none⟩])
 (.seq (.dreg ⟨[0,1,3,0,8,31,0,64,255,511,0,1024,3072,1023,16383],0,[⟨0,0,false,(.r (.off 0 (.loc 8))),none⟩,
 ⟨1,0,false,(.r (.load false 1 (.tmp 0))),none⟩,
 ⟨3,0,false,(.r (.off 1 (.loc 8))),none⟩,
 ⟨4,0,false,(.r (.load false 1 (.tmp 3))),none⟩,
 ⟨6,0,false,(.r (.off 2 (.loc 8))),none⟩,
 ⟨7,0,false,(.r (.load false 1 (.tmp 6))),none⟩,
 ⟨10,0,false,(.r (.off 3 (.loc 1))),none⟩,
 ⟨11,0,false,(.r (.off 0 (.tmp 10))),none⟩,
 ⟨12,0,false,(.r (.load false 1 (.tmp 11))),none⟩,
 ⟨2,0,true,(.call f_slices_Clone_int_int [(.tmp 1)]),none⟩,
 ⟨5,0,true,(.call f_slices_Clone_int_int [(.tmp 4)]),none⟩,
 ⟨8,0,true,(.call f_slices_Clone_int_int [(.tmp 7)]),none⟩,
 ⟨9,0,false,(.r (.build [.nils,.nils,.nils] [(0,1,(.tmp 2)),(1,1,(.tmp 5)),(2,1,(.tmp 8))])),none⟩,
 ⟨13,0,true,(.h (.store 3 (.loc 2) (.tmp 9))),none⟩,
 ⟨14,0,true,(.h (.store 1 (.loc 3) (.tmp 12))),none⟩],[]⟩)
 .ret))))),[(.cell (.loc 2) true 3),(.cell (.loc 3) false 1)]⟩
def c8_ (f_slices_Backward_api_Entry_api_Entry_f1:FuncId):AFn:=⟨4,λs=>List.contains [0,1,2] s,(.seq (.reg [⟨(.loc 1),(.h (.box (.loc 0))),none⟩,
 ⟨(.loc 2),(.r (.mov (.cst (.raw .nilFunc)))),none⟩])
 (.seq (.reg [⟨(.tmp 3),(.r (.clo f_slices_Backward_api_Entry_api_Entry_f1 [(.loc 1)])),none⟩,
 ⟨(.loc 2),(.r (.mov (.tmp 3))),none⟩])
 .ret)),[(.tmp (.loc 2))]⟩
def d5_:RFn:=⟨19,λs=>List.contains [0,1,3,8,18] s,(.seq (.calm (.reg [⟨(.tmp 4),(.r (.load false 1 (.loc 1))),none⟩,
 ⟨(.tmp 5),(.r (.len (.tmp 4))),none⟩,
 ⟨(.tmp 6),(.r (.bin .sub (.tmp 5) (.cst (.int .i64 1)))),none⟩,
 ⟨(.loc 3),(.r (.mov (.tmp 6))),none⟩]))
 (.block 0 (.loop (.seq (.calm (.seq (.reg [⟨(.tmp 7),(.r (.mov (.loc 3))),none⟩,
 ⟨(.loc 8),(.r (.bin .geq (.tmp 7) (.cst (.int .i64 0)))),none⟩])
 (.cond (.loc 8) .skip
 (.exit 0))))
 (.seq (.block 1 (.seq (.yop [⟨(.tmp 11),(.r (.mov (.loc 0))),none⟩,
 ⟨(.tmp 12),(.r (.mov (.loc 3))),none⟩,
 ⟨(.tmp 13),(.r (.load false 1 (.loc 1))),none⟩,
 ⟨(.tmp 14),(.r (.mov (.loc 3))),none⟩,
 ⟨(.tmp 15),(.r (.idx 3 (.tmp 13) (.tmp 14))),none⟩,
 ⟨(.tmp 16),(.r (.load true 3 (.tmp 15))),none⟩] (.tmp 17) (.tmp 11) [(.tmp 12),(.tmp 16)] [⟨(.loc 18),(.r (.not (.tmp 17))),none⟩])
 (.calm (.cond (.loc 18) .ret
 .skip))))
 (.calm (.reg [⟨(.tmp 9),(.r (.mov (.loc 3))),none⟩,
 ⟨(.tmp 10),(.r (.bin .sub (.tmp 9) (.cst (.int .i64 1)))),none⟩,
 ⟨(.loc 3),(.r (.mov (.tmp 10))),none⟩]))))))),[]⟩
end Glb
