/-
  Whatever a member of a group is told, what it answers, sends, changes and applies is az the document says: for every id, every Hard and every list of acts.
-/
import Derived.Test.YtdeiamnhnfmilaaGreatRows
import Derived.Test.YtdeiamnhnfmilaaGreatIsPlays
import Derived.Test.YtdeiamnhnfmilaaGreatGlbDocE
import Derived.Test.YtdeiamnhnfmilaaGreatGlbConD
import Derived.Test.YtdeiamnhnfmilaaGreatSortX
import Derived.Test.YtdeiamnhnfmilaaGreatCloneX
import Derived.Test.YtdeiamnhnfmilaaGreatFcloneX
import Derived.WalkKit
import Derived.ProofKit
import Derived.OpenShut
import Derived.ShutString
namespace Go.Proofs.YtdeiamnhnfmilaaGreat.raftPlays
open Go.ChangeShapes Go.WideShapes Go.ChangeAt Go.RowKit
open Go.ChangeMaps (open_string shut_string)
set_option linter.unusedVariables false
set_option maxRecDepth 100000
theorem own:ownKnob Tryz.prog.godebug=none:=by kernel_rfl
open Glb in
def shape:List (Bool×List Ty):=[(false,[.aA .i64]),(true,oW),(false,[.sl 20 yU])]
open Glb in
theorem copyI:lj Tryz.prog 41 .i64:=Jm is_glebekit_CopyInts
open Glb in
theorem copyB:lj Tryz.prog 71 .u8:=Jg is_glebekit_CopyBytes
open Glb in
theorem copyConf:ot Tryz.prog 70:=Ji is_glebekit_CopyConf copyI
open Glb in
theorem copyHard:yc Tryz.prog 23:=Jk is_glebekit_CopyHard (yd is_glebekit_CopyLog (yb is_glebekit_CopyEntries copyB)) copyConf copyB
open Glb in
theorem same:m_ Tryz.prog 136 .i64:=JZ is_glebekit_SameInts
open Glb in
theorem sameB:m_ Tryz.prog 74 .u8:=JT is_glebekit_SameBytes
open Glb in
theorem sameConf:wu Tryz.prog 73:=JW is_glebekit_SameConf same
open Glb in
theorem sameHard:wy Tryz.prog 25:=JY is_glebekit_SameHard (Et is_glebekit_SameLog (wv is_glebekit_SameEntries (wx is_glebekit_SameEntry sameB))) sameConf sameB
open Glb in
theorem bigConf:xX Tryz.prog 131:=I3 is_glebekit_BigConf
open Glb in
theorem pConf:rK Tryz.prog 219:=OP is_image_putConf (QD is_pack_Ints (It is_pack_room) (HB is_pack_number))
open Glb in
theorem cloneKitB:qZ Tryz.prog 107:=by
 refine⟨fun a c w=>(cloneZero a c w).mono ?_⟩;rintro e w' ⟨v,he,hown,hne,hb⟩;rcases hown.2 with⟨h1,_⟩ | ⟨g,cap,cur,h1,_⟩;·exact absurd h1 hne
 ·subst h1;exact⟨_,_,he,rfl,⟨hb.os,hb.output,hb.size,fun a ha=>World.frozen?_of_block (hb.block _ ha)⟩,hb.block⟩
open Glb in
theorem rdTake:wB Tryz.prog 187:=TH is_pack_Reader_take (GP is_pack_Reader_fail)
open Glb in
theorem rdInt:vQ Tryz.prog 188:=QC is_pack_Reader_Int rdTake
open Glb in
theorem rdBlob:xY Tryz.prog 129:=QB is_pack_Reader_Blob rdInt rdTake
open Glb in
theorem rdInts:yu Tryz.prog 182:=QE is_pack_Reader_Ints rdInt (GP is_pack_Reader_fail)
open Glb in
theorem rdRead:wm Tryz.prog 113:=QF is_pack_Read (DJ is_slices_Clone_byte_byte cloneKitB)
open Glb in
theorem sConf:rD Tryz.prog 114 fG.c iI.aA:=LW is_image_source_conf rdInts
open Glb in
theorem lastI:kj Tryz.prog 37:=Sk is_rlog_Last
open Glb in
theorem termI:jP Tryz.prog 54:=Sn is_rlog_Term lastI
open Glb in
theorem has:j_ Tryz.prog 108:=Jf is_slices_Contains_int_int (JB is_slices_Index_int_int)
open Glb in
theorem check:p9 Tryz.prog 68:=QR is_quorum_Check is_quorum_Check_f1 has (Sc is_quorum_rises) (GF is_quorum_count_int)
open Glb in
theorem getF:tF Tryz.prog 51:=Jz is_image_GetConf rdRead sConf is_image_source_end is_pack_Reader_End check
open Glb in
theorem rhas:j_ Tryz.prog 191:=Oa is_gleberef10_In
open Glb in
theorem won:nQ Tryz.prog 40:=QU is_quorum_Won (Nj is_quorum_enough is_quorum_enough_f1 has (GF is_quorum_count_int))
open Glb in
theorem sortk:Ew Tryz.prog 228:=⟨by kernel_rfl,fun blk off cap zs w hH hb hl=>Any.slices_Sort_int Tryz.lays189 blk off cap zs w hH hb hl,fun p cap w=>Any.slices_Sort_int_none Tryz.lays189 p cap w⟩
open Glb in
theorem united:wC Tryz.prog 180:=TR is_quorum_united (Je is_slices_Concat_int_int (JA is_slices_Grow_int_int)) (Tw sortk) (Jd is_slices_Compact_int_int)
open Glb in
theorem voters:nL Tryz.prog 109 fG.aE:=QT is_quorum_Voters united
open Glb in
theorem rcheck:p9 Tryz.prog 206:=N_ is_gleberef10_Check (Of is_gleberef10_rising) rhas
open Glb in
theorem clone:vk Tryz.prog 122:=Ja is_slices_Clone_int_int (Glb.LN Tryz.laysNm215)
open Glb in
theorem pick:tK Tryz.prog 22:=JO is_glebekit_Pick
open Glb in
theorem rInt:vP Tryz.prog 273:=N6 is_gleberef02_Int
open Glb in
theorem rConf:rK Tryz.prog 274:=Om is_gleberef13_putConf (N8 is_gleberef02_Ints rInt)
open Glb in
theorem rLast:kj Tryz.prog 193:=Oh is_gleberef11_Last
open Glb in
theorem rTerm:jP Tryz.prog 157:=Oj is_gleberef11_Term rLast
open Glb in
theorem copyLog:qb Tryz.prog 69:=yd is_glebekit_CopyLog (yb is_glebekit_CopyEntries copyB)
open Glb in
theorem copyChange:vm Tryz.prog 235:=Jh is_glebekit_CopyChange copyLog copyConf copyB
open Glb in
theorem spoilB:iU Tryz.prog 77 (.sl 1 [.aA .u8]):=J6 is_glebekit_SpoilBytes
open Glb in
theorem spoilI:iU Tryz.prog 137 (.sl 1 [.aA .i64]):=Kb is_glebekit_SpoilInts
open Glb in
theorem spoilE:iU Tryz.prog 75 (.sl 3 kT):=J_ is_glebekit_SpoilEntries spoilB
open Glb in
theorem spoilC:qw Tryz.prog 76 si:=J9 is_glebekit_SpoilConf spoilI
open Glb in
theorem rLeft:oD Tryz.prog 241:=JF is_gleberef02_Reader_Left
open Glb in
theorem rrInt:vR Tryz.prog 240:=JC is_gleberef02_Reader_Int rLeft
open Glb in
theorem rrBlob:vh Tryz.prog 203:=I7 is_gleberef02_Reader_Blob rrInt rLeft
open Glb in
theorem rrInts:tI Tryz.prog 242:=JD is_gleberef02_Reader_Ints rrInt rLeft
open Glb in
theorem rrRead:tP Tryz.prog 202:=JS is_gleberef02_Read
open Glb in
theorem rrConf:yq Tryz.prog 205 fG.c iI.aA:=NQ is_gleberef13_getConf rrInts
open Glb in
theorem rGetF:oC Tryz.prog 154:=Q_ is_gleberef13_GetConf rrRead rrConf is_gleberef02_Reader_End rLeft rcheck
open Glb in
theorem keptB:rJ Tryz.prog 88:=JE is_glebekit_KeptBytes sameB
open Glb in
theorem newerI:yy Tryz.prog 31:=Sl is_rlog_Newer lastI
open Glb in
theorem bigEntries:vg Tryz.prog 78:=I4 is_glebekit_BigEntries
open Glb in
theorem sameLog:wz Tryz.prog 39:=Et is_glebekit_SameLog (wv is_glebekit_SameEntries (wx is_glebekit_SameEntry sameB))
open Glb in
theorem sameMsgs:yP Tryz.prog 160:=J3 is_glebekit_SameMsgs (Eu is_glebekit_SameMsg (wv is_glebekit_SameEntries (wx is_glebekit_SameEntry sameB)) sameB)
open Glb in
theorem rvoters:pw Tryz.prog 192 fG.aE:=Oc is_gleberef10_Voters (EO is_gleberef10_all (ED is_gleberef10_With rhas))
open Glb in
theorem vTime:oK Tryz.prog 43:=UM is_vote_Timeout
open Glb in
theorem rvTime:oK Tryz.prog 72:=Ot is_gleberef14_Timeout
open Glb in
theorem vGrants:rG Tryz.prog 124:=UL is_vote_Grants newerI
open Glb in
theorem rvLast:kj Tryz.prog 197:=Oq is_gleberef14_Last
open Glb in
theorem rvGrants:rG Tryz.prog 198:=Oo is_gleberef14_Grants rvLast
open Glb in
theorem vAsks:pZ Tryz.prog 112:=UK is_vote_Asks lastI voters
open Glb in
theorem rvAsks:pZ Tryz.prog 147:=On is_gleberef14_Asks rvLast rvoters
open Glb in
theorem ofI:vW Tryz.prog 55:=Qf is_conf_Of (K6 is_slices_Backward_api_Entry_api_Entry) (K7 is_slices_Backward_api_Entry_api_Entry_f1) getF clone
open Glb in
theorem rofI:nM Tryz.prog 158:=Sr is_gleberef16_Of copyConf rGetF
open Glb in
theorem sliceI:kS Tryz.prog 105:=Sm is_rlog_Slice lastI (Dj is_rlog_fresh)
open Glb in
theorem appendI:ve Tryz.prog 116:=Si is_rlog_Append lastI (Dj is_rlog_fresh) termI
open Glb in
theorem cutI:vp Tryz.prog 123:=Sj is_rlog_Cut termI (Dj is_rlog_fresh)
open Glb in
theorem membersI:nL Tryz.prog 183 fG.aL:=QS is_quorum_Members united
open Glb in
theorem agreedI:qX Tryz.prog 120:=QQ is_quorum_Agreed won
open Glb in
theorem fNextI:JI Tryz.prog 110:=ND is_flow_Next (OO is_image_PutConf pConf).fp (QA is_pack_Blob (It is_pack_room) (HB is_pack_number)) termI.p sliceI
open Glb in
theorem fNewI:JH Tryz.prog 184:=NC is_flow_New
open Glb in
theorem fHeardI:tH Tryz.prog 127:=NA is_flow_Heard
open Glb in
theorem cloneB17:p_ Tryz.prog 107:=DJ is_slices_Clone_byte_byte cloneKitB
open Glb in
theorem ixFlow:vO Tryz.prog 125:=OR is_slices_IndexFunc_api_Flow_api_Flow
open Glb in
theorem cloneKitF:qZ Tryz.prog 163:=by
 refine⟨fun a c w=>(fcloneZero a c w).mono ?_⟩;rintro e w' ⟨v,he,hown,hne,hb⟩;rcases hown.2 with⟨h1,_⟩ | ⟨g,cap,cur,h1,_⟩;·exact absurd h1 hne
 ·subst h1;exact⟨_,_,he,rfl,⟨hb.os,hb.output,hb.size,fun a ha=>World.frozen?_of_block (hb.block _ ha)⟩,hb.block⟩
open Glb in
theorem cloneFl:xZ Tryz.prog 163:=I_ is_slices_Clone_api_Flow_api_Flow cloneKitF
open Glb in
theorem rfSend:qt Tryz.prog 61:=Tg is_raft_call_send
open Glb in
theorem rfTell:rN Tryz.prog 117:=TJ is_raft_call_tell
open Glb in
theorem rfNow:px Tryz.prog 58:=Qb is_raft_Raft_now ofI.p
open Glb in
theorem rfLast:oJ Tryz.prog 49:=Pw is_raft_Raft_last lastI
open Glb in
theorem rfVoter:tV Tryz.prog 48:=UO is_raft_Raft_voter rfNow voters has
open Glb in
theorem rfBegin:p8 Tryz.prog 44:=K9 is_raft_Raft_begin
open Glb in
theorem rfFollow:qi Tryz.prog 60:=NI is_raft_Raft_follow
open Glb in
theorem rfTerm:tU Tryz.prog 59:=TK is_raft_call_term rfTell
open Glb in
theorem rfTo:pA Tryz.prog 47:=TN is_raft_call_to fNextI rfSend
open Glb in
theorem rfEach:oB Tryz.prog 46:=Nc is_raft_Raft_each
open Glb in
theorem rfMeet:wg Tryz.prog 118:=Sp is_raft_Raft_meet rfNow membersI fNewI is_raft_Raft_meet_f1 ixFlow
open Glb in
theorem rfSettle:tN Tryz.prog 53:=SD is_raft_call_settle rfLast is_raft_call_settle_f1 rfEach rfNow agreedI termI
open Glb in
theorem rfLay:wc Tryz.prog 52:=Sf is_raft_call_lay rfLast appendI.p sliceI rfTell rfMeet
open Glb in
theorem rfLead:we Tryz.prog 111:=Sg is_raft_call_lead rfLast rfMeet rfLay rfTo rfEach rfSettle
open Glb in
theorem rfEnd:v_ Tryz.prog 45:=Rr is_raft_call_end ofI.p voters has rfFollow sliceI
open Glb in
theorem rfEndD:v8 Tryz.prog 45:=Rq is_raft_call_end ofI.p voters has rfFollow sliceI
open Glb in
theorem rfStand:yL Tryz.prog 50:=SE is_raft_call_stand rfTerm rfFollow vTime rfNow won rfLead vAsks rfSend
open Glb in
theorem rfAsked:yE Tryz.prog 62:=Rg is_raft_call_asked vGrants rfTerm rfSend
open Glb in
theorem rfVoted:yM Tryz.prog 63:=S6 is_raft_call_voted has rfVoter rfNow won rfLead
open Glb in
theorem rfAnswer:vY Tryz.prog 128:=Re is_raft_call_answer rfSend
open Glb in
theorem rfHeard:yH Tryz.prog 64:=R_ is_raft_call_heard is_raft_call_heard_f1 ixFlow fHeardI rfSettle rfLast rfTo
open Glb in
theorem rfAppend:yD Tryz.prog 65:=Rf is_raft_call_append rfAnswer termI rfLast appendI.p sliceI rfTell
open Glb in
theorem rfFreshConf:rC Tryz.prog 106:=NN is_raft_freshConf clone
open Glb in
theorem rfBase:vZ Tryz.prog 56:=Rh is_raft_call_base termI cutI.cp rfFreshConf cloneB17 rfTell
open Glb in
theorem rfRestore:yJ Tryz.prog 66:=Sx is_raft_call_restore rfAnswer rdRead rdBlob getF.q is_pack_Reader_End rfBase
open Glb in
theorem rfStep:wk Tryz.prog 17:=SF is_raft_Raft_Step rfBegin rfEndD rfVoter rfTerm rfFollow rfSend rfAsked rfVoted rfHeard rfAppend rfRestore
open Glb in
theorem rfTick:tO Tryz.prog 11:=SG is_raft_Raft_Tick rfBegin rfEndD rfTo rfEach rfVoter rfLast rfStand
open Glb in
theorem rfPropose:tM Tryz.prog 12:=Sv is_raft_Raft_Propose getF.q rfLast rfBegin rfLay rfTo rfEach rfSettle rfEnd
open Glb in
theorem rfRead:wj Tryz.prog 13:=Sw is_raft_Raft_Read termI rfBegin rfTo rfEach
open Glb in
theorem rfCompact:v7 Tryz.prog 14:=Rj is_raft_Raft_Compact ofI.p termI rfBegin rfBase rfEnd
open Glb in
theorem rfSafe:yK Tryz.prog 16:=Sz is_raft_Raft_Safe is_raft_Raft_Safe_f1 rfEach rfNow won
open Glb in
theorem rfRole:mW Tryz.prog 19 fm.aM:=Sy is_raft_Raft_Role
open Glb in
theorem rfLeader:mW Tryz.prog 18 fm.aW:=Sh is_raft_Raft_Leader
open Glb in
theorem rfCommit:mW Tryz.prog 38 fm.aI:=Ri is_raft_Raft_Commit
open Glb in
theorem rfFlows:yF Tryz.prog 91:=RZ is_raft_Raft_Flows cloneFl
open Glb in
theorem rfFresh:tL Tryz.prog 42:=R0 is_raft_fresh sliceI rfFreshConf cloneB17
open Glb in
theorem rfHard:yG Tryz.prog 15:=R9 is_raft_Raft_Hard rfFresh
open Glb in
theorem rfNew:wh Tryz.prog 9:=Sq is_raft_New rfFresh.p vTime
open Glb in
theorem rfAlone:yC Tryz.prog 10:=Rb is_glebelaw17_alone
open Glb in
theorem rfKnown:yI Tryz.prog 20:=Se is_glebelaw17_known rfAlone rfNew rfTick rfRole rfPropose rfCommit
open Glb in
theorem ceB:mC Tryz.prog 135:=yb is_glebekit_CopyEntries copyB
open Glb in
theorem sameEs:tR Tryz.prog 103:=wv is_glebekit_SameEntries (wx is_glebekit_SameEntry sameB)
open Glb in
theorem sameMsg:qq Tryz.prog 87:=Eu is_glebekit_SameMsg sameEs sameB
open Glb in
theorem copyMsg:rk Tryz.prog 79:=Jo is_glebekit_CopyMsg ceB copyB
open Glb in
theorem clogC:vn Tryz.prog 69:=Jn is_glebekit_CopyLog ceB
open Glb in
theorem rall:uZ Tryz.prog 234:=EO is_gleberef10_all (ED is_gleberef10_With rhas)
open Glb in
theorem rwon:nQ Tryz.prog 195:=Od is_gleberef10_Won (Oe is_gleberef10_enough rhas)
open Glb in
theorem rmembers:pw Tryz.prog 237 fG.aL:=Ob is_gleberef10_Members rvoters rall
open Glb in
theorem ragreed:qX Tryz.prog 207:=N9 is_gleberef10_Agreed rwon
open Glb in
theorem rSlice:kS Tryz.prog 190:=Oi is_gleberef11_Slice rLast ceB
open Glb in
theorem rAppend:vd Tryz.prog 200:=Og is_gleberef11_Append rLast (yd is_glebekit_CopyLog ceB) rTerm ceB copyB
open Glb in
theorem dmNext:yj Tryz.prog 233:=Mz is_gleberef15_Next (Ol is_gleberef13_PutConf rConf) (N5 is_gleberef02_Blob rInt) rTerm rSlice
open Glb in
theorem dmConf:ou Tryz.prog 146:=Mi is_gleberef17_Raft_conf rofI
open Glb in
theorem dmLast:oz Tryz.prog 141:=Mv is_gleberef17_Raft_last rLast
open Glb in
theorem dmVoter:ry Tryz.prog 140:=M_ is_gleberef17_Raft_voter dmConf rvoters rhas
open Glb in
theorem dmWon:rz Tryz.prog 144:=Nb is_gleberef17_Raft_won dmConf rwon
open Glb in
theorem dmFollow:qg Tryz.prog 143:=Mp is_gleberef17_Raft_follow
open Glb in
theorem dmFollowS:yg Tryz.prog 143:=Mq is_gleberef17_Raft_follow
open Glb in
theorem dmChange:qf Tryz.prog 194:=Mf is_gleberef17_Raft_change copyChange
open Glb in
theorem dmTerm:ru Tryz.prog 142:=MS is_gleberef17_Raft_term dmChange
open Glb in
theorem dmSend:oA Tryz.prog 148:=ML is_gleberef17_Raft_send copyMsg
open Glb in
theorem dmTo:vF Tryz.prog 189:=MV is_gleberef17_Raft_to dmNext dmSend
open Glb in
theorem dmOn:rq Tryz.prog 138:=ME is_gleberef17_Raft_on dmTo
open Glb in
theorem dmFlows:vv Tryz.prog 196:=Mo is_gleberef17_Raft_flows dmConf rmembers (Mu is_gleberef17_known) (Ov is_gleberef15_New)
open Glb in
theorem dmLay:vz Tryz.prog 155:=Mw is_gleberef17_Raft_lay dmLast copyB dmChange dmFlows
open Glb in
theorem dmCommits:tA Tryz.prog 156:=Mg is_gleberef17_Raft_commits dmConf dmLast ragreed rTerm
open Glb in
theorem dmLeads:tB Tryz.prog 145:=Mx is_gleberef17_Raft_leads dmLast dmFlows dmLay dmOn dmCommits
open Glb in
theorem dmEnd:pn Tryz.prog 139:=Ml is_gleberef17_Raft_end dmConf dmVoter dmFollowS rSlice
open Glb in
theorem dmAnswers:qc Tryz.prog 199:=L_ is_gleberef17_Raft_answers dmSend
open Glb in
theorem dmVote:vG Tryz.prog 149:=MZ is_gleberef17_Raft_vote rvGrants dmTerm dmSend
open Glb in
theorem dmVoted:vH Tryz.prog 150:=M4 is_gleberef17_Raft_voted dmVoter rhas dmWon dmLeads
open Glb in
theorem dmAppend:vt Tryz.prog 151:=Mc is_gleberef17_Raft_append dmFollow dmAnswers rTerm dmLast rAppend rSlice dmChange
open Glb in
theorem dmHeard:vw Tryz.prog 152:=Md is_gleberef17_Raft_appended (Ou is_gleberef15_Heard) dmCommits dmLast dmTo
open Glb in
theorem dmBase:tz Tryz.prog 159:=MO is_gleberef17_Raft_snapped (Ke is_gleberef13_Turned copyHard copyChange (J5 is_gleberef13_Snapped rTerm (Jp is_gleberef11_Cut rTerm ceB))) dmChange
open Glb in
theorem dmSnap:vC Tryz.prog 153:=MM is_gleberef17_Raft_snap dmFollow dmAnswers rrRead rrBlob rGetF is_gleberef02_Reader_End rLeft dmBase
open Glb in
theorem dmStep:vD Tryz.prog 82:=MQ is_gleberef17_Raft_Step dmVoter dmEnd dmTerm dmFollow dmSend dmVote dmVoted dmAppend dmHeard dmSnap
open Glb in
theorem dmTick:vE Tryz.prog 81:=MT is_gleberef17_Raft_Tick dmOn dmEnd dmVoter dmLast dmTerm dmFollow rvTime dmWon dmLeads dmConf rvAsks dmSend
open Glb in
theorem dmPropose:vA Tryz.prog 83:=MF is_gleberef17_Raft_Propose rGetF dmLast dmLay dmOn dmCommits dmEnd
open Glb in
theorem dmRead:vB Tryz.prog 84:=MJ is_gleberef17_Raft_Read rTerm dmOn
open Glb in
theorem dmSafe:yk Tryz.prog 93:=MK is_gleberef17_Raft_Safe dmWon
open Glb in
theorem dmCompact:vu Tryz.prog 85:=Mh is_gleberef17_Raft_Compact rTerm rofI dmBase dmEnd
open Glb in
theorem dmNew:yi Tryz.prog 24:=My is_gleberef17_New (Jj is_glebekit_CopyHard clogC copyConf copyB) rvTime
open Glb in
theorem spoilMs:iU Tryz.prog 90 (.sl 17 lV):=Kc is_glebekit_SpoilMsgs spoilE spoilB
open Glb in
theorem dmDoes:yl Tryz.prog 28:=MC is_glebelaw17_pair_does copyMsg (JG is_glebekit_LentBytes) pick rfTick dmTick rfStep dmStep rfPropose dmPropose rfRead dmRead rfCompact dmCompact
 (J4 is_glebekit_SameReady sameMsgs (JV is_glebekit_SameChanges (JU is_glebekit_SameChange sameLog sameConf sameB)) sameEs) sameMsg keptB (Kd is_glebekit_SpoilReady spoilMs (J7 is_glebekit_SpoilChanges spoilE spoilC spoilB) spoilE) spoilB spoilMs
open Glb in
theorem dmAlike:xV Tryz.prog 29:=KD is_glebelaw17_pair_alike rfHard rfFlows sameHard (JX is_glebekit_SameFlows) rfRole rfLeader rfCommit rfSafe dmSafe (Ez is_glebekit_SpoilHard spoilE spoilC spoilB) (Ka is_glebekit_SpoilFlows)
open Glb in
theorem law (dss:List (List D))(h:nK dss shape):fy Tryz.prog 4 (wI dss shape) [] fun r _=>r=.aD true:=by obtain⟨_,_,rfl,h1,h⟩:=yp h;obtain⟨_,_,rfl,h2,h⟩:=yp h;obtain⟨_,_,rfl,h3,h⟩:=yp h;cases Js h;obtain⟨id,rfl⟩:=Nw h1;obtain⟨x,rfl,hx⟩:=Nv h2;obtain⟨l,rfl,hl⟩:=Nt h3;exact (Ra is_glebelaw17_RaftPlays (Sa is_glebelaw17_Right (I5 is_glebekit_BigHard bigEntries bigConf) check) rfKnown pick (Jl is_glebekit_CopyHard clogC copyConf copyB) rfNew dmNew sameHard (Ez is_glebekit_SpoilHard spoilE spoilC spoilB) (I6 is_glebekit_BigMsg bigEntries) dmDoes dmAlike id x l hx hl []).aA fun _ _ h=>h.1
theorem shaped:Glb.td Tryz.prog 12 Tryz.f4.params.toList=some shape:=by kernel_rfl
theorem lifted (os:Os)(started:os.Started)(H:Type)(enc:TypeId×Value->H):
  ReturnsInHanded {} Tryz.checked os 4 .any (Rows.raftPlaysSpec.pre6 enc Tryz.prog Tryz.f4 Rows.raftPlaysRow.domain false) (Rows.raftPlaysSpec.post enc Tryz.prog Tryz.f4 false true false false):=by
 refine returnsInHanded_of_change (C:=Tryz.checked) own started (by kernel_rfl) Tryz.func4
  (ChangeSpec.witness6 (enc:=enc) (C:=Tryz.checked) false ⟨#[],#[.int .i64 0,.agg #[.int .i64 0,.int .i64 0,.int .i64 0,.int .i64 0,.int .i64 0,.slice none 0 0,.slice none 0 0,.slice none 0 0,.slice none 0 0,.slice none 0 0],.slice none 0 0],[]⟩ 12 (by kernel_rfl) (by kernel_rfl) (by kernel_rfl) (by kernel_rfl)) ?_
 intro W base args ds gs before hval0 hW hcnd _;have hval:∀(j:Nat) t v,Tryz.f4.params[j]?=some t->args[j]?=some v->Value.okWide Tryz.prog W .any base t v:=hval0;have hW':=hW;obtain⟨p,q,hA0,hV,rfl,hfz,hnd⟩:=hW;have hA:DataW.TrodAll enc Tryz.prog W 0 (fun _=>true) true Tryz.f4.params.toList args.toList ds p:=hA0;obtain⟨rfl,rfl⟩:=trodVars_none hV;simp only[List.append_nil]at hW';have hlen:∃d0 d1 d2,ds=[d0,d1,d2]:=by rw[Tryz.params4]at hA;obtain⟨v0,v1,v2,x0,x1,x2,p0,p1,p2,h⟩:=trodAll_three hA;exact⟨x0,x1,x2,h.2.1⟩
 obtain⟨d0,d1,d2,rfl⟩:=hlen;refine (Glb.Px (n:=12) shaped law hA (fun j t v a b=>hval j t v (by simpa using a) b)).mono fun e W' ⟨he,hg,hsame⟩=>?_;subst he;exact⟨_,rfl,Glb.QL (pa:=p) (pv:=[]) hW' (fun _ _ _=>(trodAll_cons_mk (shut_bool Tryz.underlying4 _) trodAll_mk0))
  (fun sp hsp=>Glb.TO (by kernel_rfl) hsame _ _ _ _ (by kernel_rfl) hA hW'.lt hsp) (fun _ _=>rfl) (by simp)
  (hg.aA _) hg.2.1 (ok_one (by kernel_rfl) rfl (okWide_bool_mk Tryz.underlying4 _))⟩
theorem over:Rows.raftPlaysRow.holds Tryz.pinned (OpenSpec.ofChange Rows.raftPlaysSpec):=
 OpenClaim.holds_of_wide 4 Tryz.f4 rfl rfl rfl rfl rfl rfl rfl ⟨rfl,rfl,rfl,rfl,rfl⟩ rfl rfl rfl rfl rfl (by kernel_rfl) Tryz.func4 (by kernel_rfl)
 (of_decide_eq_true (by kernel_rfl)) (by unfold Func.isWrapper;first | (rw[if_pos (by decide +kernel)];kernel_rfl) | (rw[if_neg (by decide +kernel)];exact⟨rfl,rfl⟩))
 (fun os started H enc _=>lifted os started H enc)
theorem proved:Rows.RaftPlaysSaid:=
 over
#print axioms proved
end Go.Proofs.YtdeiamnhnfmilaaGreat.raftPlays
