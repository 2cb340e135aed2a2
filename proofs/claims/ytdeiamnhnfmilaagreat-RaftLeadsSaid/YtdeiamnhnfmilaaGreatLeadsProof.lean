/-
  Three members have one Leader, and one log, once all goes well: whatever moves come ahead, for every list of moves.
-/
import Derived.Test.YtdeiamnhnfmilaaGreatRows
import Derived.Test.YtdeiamnhnfmilaaGreatIsLeads
import Derived.Test.YtdeiamnhnfmilaaGreatGlbLdsA
import Derived.Test.YtdeiamnhnfmilaaGreatGlbConD
import Derived.Test.YtdeiamnhnfmilaaGreatSortX
import Derived.Test.YtdeiamnhnfmilaaGreatCloneX
import Derived.Test.YtdeiamnhnfmilaaGreatFcloneX
import Derived.WalkKit
import Derived.ProofKit
import Derived.OpenShut
import Derived.ShutString
namespace Go.Proofs.YtdeiamnhnfmilaaGreat.raftLeads
open Go.ChangeShapes Go.WideShapes Go.ChangeAt Go.RowKit
open Go.ChangeMaps (open_string shut_string)
set_option linter.unusedVariables false
set_option maxRecDepth 100000
theorem own:ownKnob Tryz.prog.godebug=none:=by kernel_rfl
open Glb in
def shape:List (Bool×List Ty):=[(false,[.sl 3 D9])]
open Glb in
theorem copyI:pH Tryz.prog 41 .i64:=KB is_glebekit_CopyInts
open Glb in
theorem copyB:pH Tryz.prog 71 .u8:=Ky is_glebekit_CopyBytes
open Glb in
theorem copyConf:vI Tryz.prog 70:=Kz is_glebekit_CopyConf copyI
open Glb in
theorem copyHard:xB Tryz.prog 23:=KA is_glebekit_CopyHard (KC is_glebekit_CopyLog (Fo is_glebekit_CopyEntries copyB)) copyConf copyB
open Glb in
theorem same:ri Tryz.prog 136 .i64:=K9 is_glebekit_SameInts
open Glb in
theorem sameB:ri Tryz.prog 74 .u8:=K6 is_glebekit_SameBytes
open Glb in
theorem sameConf:AM Tryz.prog 73:=K7 is_glebekit_SameConf same
open Glb in
theorem sameHard:AN Tryz.prog 25:=K8 is_glebekit_SameHard (FU is_glebekit_SameLog (FT is_glebekit_SameEntries (xZ is_glebekit_SameEntry sameB))) sameConf sameB
open Glb in
theorem pInt:su Tryz.prog 245:=(RJ is_pack_Int (zG is_pack_room) (zp is_pack_number)).p
open Glb in
theorem pBlob:vE Tryz.prog 181:=(I_ is_pack_Blob (zG is_pack_room) (zp is_pack_number)).p
open Glb in
theorem vints:sO Tryz.prog 218:=PB is_image_ints pInt
open Glb in
theorem pConf:vO Tryz.prog 219:=Px is_image_putConf (RK is_pack_Ints (zG is_pack_room) (zp is_pack_number))
open Glb in
theorem pEntry:lu Tryz.prog 251 gw.c lL.aC:=R_ is_image_putEntry vints pBlob
open Glb in
theorem pLog:lu Tryz.prog 217 fG.c kW.aC:=Sd is_image_putLog vints (Sa is_image_putList_api_Entry pInt) pEntry
open Glb in
theorem pVote:lu Tryz.prog 213 im.c j_.aC:=Se is_image_putVote vints
open Glb in
theorem pHard:lu Tryz.prog 212 fP.c kO.aC:=Sb is_image_putHard vints pLog pConf.p pBlob
open Glb in
theorem pPut:Ax Tryz.prog 164:=K4 is_image_Put (Sc is_image_putList_api_Hard pInt) pHard (Sf is_image_putList_api_Accepted pInt) pVote
open Glb in
theorem cloneKitB:xw Tryz.prog 107:=by
 refine⟨fun a c w=>(cloneZero a c w).mono ?_⟩;rintro e w' ⟨v,he,hown,hne,hb⟩;rcases hown.2 with⟨h1,_⟩ | ⟨g,cap,cur,h1,_⟩;·exact absurd h1 hne
 ·subst h1;exact⟨_,_,he,rfl,⟨hb.os,hb.output,hb.size,fun a ha=>World.frozen?_of_block (hb.block _ ha)⟩,hb.block⟩
open Glb in
theorem rdTake:x7 Tryz.prog 187:=Vd is_pack_Reader_take (HE is_pack_Reader_fail)
open Glb in
theorem rdInt:nN Tryz.prog 188:=RI is_pack_Reader_Int rdTake
open Glb in
theorem rdBlob:tT Tryz.prog 129:=RG is_pack_Reader_Blob rdInt rdTake
open Glb in
theorem rdInts:Ar Tryz.prog 182:=RL is_pack_Reader_Ints rdInt (HE is_pack_Reader_fail)
open Glb in
theorem rdRead:ui Tryz.prog 113:=RN is_pack_Read (Fg is_slices_Clone_byte_byte cloneKitB)
open Glb in
theorem sEntry:jP Tryz.prog 249 gw.c lL.aA:=Ol is_image_source_entry rdInt rdBlob
open Glb in
theorem sLog:jP Tryz.prog 215 fG.c kW.aA:=QJ is_image_source_log rdInt sEntry (QE is_image_listOf_api_Entry (OS is_image_getList_api_Entry rdInt is_pack_Reader_Left is_pack_Reader_Bad))
open Glb in
theorem sConf:jP Tryz.prog 114 fI.c jz.aA:=NN is_image_source_conf rdInts
open Glb in
theorem sVote:jP Tryz.prog 168 im.c j_.aA:=Wn is_image_source_vote rdInt
open Glb in
theorem sHard:jP Tryz.prog 166 fP.c kO.aA:=O7 is_image_source_hard rdInt sLog sConf rdBlob
open Glb in
theorem sHards:qg Tryz.prog 165 10 fP.c kO.aA:=QF is_image_listOf_api_Hard (OT is_image_getList_api_Hard rdInt is_pack_Reader_Left is_pack_Reader_Bad)
open Glb in
theorem sVotes:qg Tryz.prog 167 5 im.c j_.aA:=QG is_image_listOf_api_Accepted (OU is_image_getList_api_Accepted rdInt is_pack_Reader_Left is_pack_Reader_Bad)
open Glb in
theorem aheadI:zY Tryz.prog 171:=Pv is_image_ahead
open Glb in
theorem lastI:mR Tryz.prog 37:=TU is_rlog_Last
open Glb in
theorem termI:pO Tryz.prog 54:=TX is_rlog_Term lastI
open Glb in
theorem pChange:lu Tryz.prog 169 gE.c lQ.aC:=RZ is_image_putChange vints pLog pConf.p pBlob pVote
open Glb in
theorem sChange:jP Tryz.prog 170 gE.c lQ.aA:=NC is_image_source_change rdInt sLog sConf rdBlob sVote
open Glb in
theorem applyI:tR Tryz.prog 30:=Ko is_image_Apply (OM is_image_fresh pPut rdRead sHard sHards sVote sVotes) (OK is_image_freshChange pChange rdRead sChange) (Ld is_image_accept aheadI)
 (Vp is_image_turn lastI termI (JB is_rlog_Cut termI (zF is_rlog_fresh)))
open Glb in
theorem has:oM Tryz.prog 108:=Kx is_slices_Contains_int_int (KS is_slices_Index_int_int)
open Glb in
theorem check:Aa Tryz.prog 68:=Sl is_quorum_Check is_quorum_Check_f1 has (TM is_quorum_rises) (Hw is_quorum_count_int)
open Glb in
theorem getF:vL Tryz.prog 51:=KP is_image_GetConf rdRead sConf is_image_source_end is_pack_Reader_End check
open Glb in
theorem won:vX Tryz.prog 40:=Sp is_quorum_Won (Oj is_quorum_enough is_quorum_enough_f1 has (Hw is_quorum_count_int))
open Glb in
theorem sortk:FV Tryz.prog 228:=⟨by kernel_rfl,fun blk off cap zs w hH hb hl=>Any.slices_Sort_int Tryz.lays189 blk off cap zs w hH hb hl,fun p cap w=>Any.slices_Sort_int_none Tryz.lays189 p cap w⟩
open Glb in
theorem united:x_ Tryz.prog 180:=Vv is_quorum_united (Kw is_slices_Concat_int_int (KQ is_slices_Grow_int_int)) (U6 sortk) (Kv is_slices_Compact_int_int)
open Glb in
theorem voters:pJ Tryz.prog 109 fI.aI:=Sn is_quorum_Voters united
open Glb in
theorem clone:xz Tryz.prog 122:=Kr is_slices_Clone_int_int (Glb.NF Tryz.laysNm215)
open Glb in
theorem pick:vN Tryz.prog 22:=KY is_glebekit_Pick
open Glb in
theorem newerI:Av Tryz.prog 31:=TV is_rlog_Newer lastI
open Glb in
theorem sameLog:qq Tryz.prog 39:=FU is_glebekit_SameLog (FT is_glebekit_SameEntries (xZ is_glebekit_SameEntry sameB))
open Glb in
theorem vTime:x9 Tryz.prog 43:=Wm is_vote_Timeout
open Glb in
theorem vGrants:Ao Tryz.prog 124:=Wl is_vote_Grants newerI
open Glb in
theorem vAsks:z8 Tryz.prog 112:=Wj is_vote_Asks lastI voters
open Glb in
theorem ofI:xP Tryz.prog 55:=Rn is_conf_Of (Mf is_slices_Backward_api_Entry_api_Entry) (Mg is_slices_Backward_api_Entry_api_Entry_f1) getF clone
open Glb in
theorem sliceI:oT Tryz.prog 105:=TW is_rlog_Slice lastI (zF is_rlog_fresh)
open Glb in
theorem appendI:xr Tryz.prog 116:=TT is_rlog_Append lastI (zF is_rlog_fresh) termI
open Glb in
theorem cutI:vJ Tryz.prog 123:=JB is_rlog_Cut termI (zF is_rlog_fresh)
open Glb in
theorem membersI:pJ Tryz.prog 183 fI.aM:=Sm is_quorum_Members united
open Glb in
theorem agreedI:zX Tryz.prog 120:=Sk is_quorum_Agreed won
open Glb in
theorem fNextI:KV Tryz.prog 110:=OD is_flow_Next (Pu is_image_PutConf pConf).fp (I_ is_pack_Blob (zG is_pack_room) (zp is_pack_number)) termI.p sliceI
open Glb in
theorem fNewI:KU Tryz.prog 184:=OC is_flow_New
open Glb in
theorem fHeardI:Ap Tryz.prog 127:=OB is_flow_Heard
open Glb in
theorem cloneB17:r_ Tryz.prog 107:=Fg is_slices_Clone_byte_byte cloneKitB
open Glb in
theorem ixFlow:xH Tryz.prog 125:=Pz is_slices_IndexFunc_api_Flow_api_Flow
open Glb in
theorem rfSend:sI Tryz.prog 61:=UL is_raft_call_send
open Glb in
theorem rfTell:uk Tryz.prog 117:=Vh is_raft_call_tell
open Glb in
theorem rfNow:sw Tryz.prog 58:=Rg is_raft_Raft_now ofI.p
open Glb in
theorem rfLast:qm Tryz.prog 49:=Qi is_raft_Raft_last lastI
open Glb in
theorem rfVoter:vW Tryz.prog 48:=Wq is_raft_Raft_voter rfNow voters has
open Glb in
theorem rfBegin:vD Tryz.prog 44:=Mp is_raft_Raft_begin
open Glb in
theorem rfFollow:sq Tryz.prog 60:=OF is_raft_Raft_follow
open Glb in
theorem rfTerm:vV Tryz.prog 59:=Vi is_raft_call_term rfTell
open Glb in
theorem rfTo:sM Tryz.prog 47:=Vm is_raft_call_to fNextI rfSend
open Glb in
theorem rfEach:sk Tryz.prog 46:=Oa is_raft_Raft_each
open Glb in
theorem rfMeet:xW Tryz.prog 118:=TY is_raft_Raft_meet rfNow membersI fNewI is_raft_Raft_meet_f1 ixFlow
open Glb in
theorem rfSettle:vQ Tryz.prog 53:=Ue is_raft_call_settle rfLast is_raft_call_settle_f1 rfEach rfNow agreedI termI
open Glb in
theorem rfLay:xU Tryz.prog 52:=TQ is_raft_call_lay rfLast appendI.p sliceI rfTell rfMeet
open Glb in
theorem rfLead:xV Tryz.prog 111:=TR is_raft_call_lead rfLast rfMeet rfLay rfTo rfEach rfSettle
open Glb in
theorem rfEnd:AE Tryz.prog 45:=Td is_raft_call_end ofI.p voters has rfFollow sliceI
open Glb in
theorem rfEndD:xS Tryz.prog 45:=Tc is_raft_call_end ofI.p voters has rfFollow sliceI
open Glb in
theorem rfStand:AH Tryz.prog 50:=Uf is_raft_call_stand rfTerm rfFollow vTime rfNow won rfLead vAsks rfSend
open Glb in
theorem rfAsked:AA Tryz.prog 62:=SN is_raft_call_asked vGrants rfTerm rfSend
open Glb in
theorem rfVoted:AJ Tryz.prog 63:=Uz is_raft_call_voted has rfVoter rfNow won rfLead
open Glb in
theorem rfAnswer:xR Tryz.prog 128:=SL is_raft_call_answer rfSend
open Glb in
theorem rfHeard:AF Tryz.prog 64:=TJ is_raft_call_heard is_raft_call_heard_f1 ixFlow fHeardI rfSettle rfLast rfTo
open Glb in
theorem rfAppend:Az Tryz.prog 65:=SM is_raft_call_append rfAnswer termI rfLast appendI.p sliceI rfTell
open Glb in
theorem rfFreshConf:tZ Tryz.prog 106:=OL is_raft_freshConf clone
open Glb in
theorem rfBase:AD Tryz.prog 56:=SO is_raft_call_base termI cutI.cp rfFreshConf cloneB17 rfTell
open Glb in
theorem rfRestore:AG Tryz.prog 66:=Uc is_raft_call_restore rfAnswer rdRead rdBlob getF.q is_pack_Reader_End rfBase
open Glb in
theorem rfStep:AI Tryz.prog 17:=Ug is_raft_Raft_Step rfBegin rfEndD rfVoter rfTerm rfFollow rfSend rfAsked rfVoted rfHeard rfAppend rfRestore
open Glb in
theorem rfTick:sH Tryz.prog 11:=Uh is_raft_Raft_Tick rfBegin rfEndD rfTo rfEach rfVoter rfLast rfStand
open Glb in
theorem rfPropose:qp Tryz.prog 12:=Ub is_raft_Raft_Propose getF.q rfLast rfBegin rfLay rfTo rfEach rfSettle rfEnd
open Glb in
theorem rfRole:kK Tryz.prog 19 fy.aE:=Ud is_raft_Raft_Role
open Glb in
theorem rfLeader:kK Tryz.prog 18 fy.aR:=TS is_raft_Raft_Leader
open Glb in
theorem rfCommit:kK Tryz.prog 38 fy.aD:=SP is_raft_Raft_Commit
open Glb in
theorem rfFresh:vP Tryz.prog 42:=TG is_raft_fresh sliceI rfFreshConf cloneB17
open Glb in
theorem rfHard:pN Tryz.prog 15:=TI is_raft_Raft_Hard rfFresh
open Glb in
theorem rfNew:sG Tryz.prog 9:=TZ is_raft_New rfFresh.p vTime
open Glb in
theorem rfAlone:Ay Tryz.prog 10:=SJ is_glebelaw17_alone
open Glb in
theorem rfKnown:qZ Tryz.prog 20:=TP is_glebelaw17_known rfAlone rfNew rfTick rfRole rfPropose rfCommit
open Glb in
theorem ntApplied:z7 Tryz.prog 101:=LR is_glebelaw17_net_applied (xZ is_glebekit_SameEntry sameB)
open Glb in
theorem ntLeader:Au Tryz.prog 102:=Qp is_glebelaw17_net_leader sliceI (xZ is_glebekit_SameEntry sameB)
open Glb in
theorem ntTakes:lW Tryz.prog 36:=Vg is_glebelaw17_net_takes applyI rfHard sameHard ntApplied rfRole ntLeader
open Glb in
theorem ntCome:vH Tryz.prog 99:=NM is_glebelaw17_net_come rfStep ntTakes
open Glb in
theorem ntBegin:z_ Tryz.prog 33:=Mm is_glebelaw17_begin rfNew copyHard
open Glb in
theorem ntMove8:xN (fun q=>q<=8) Tryz.prog 34:=QY is_glebelaw17_net_move pick rfTick ntTakes ntCome (KD is_glebekit_CopyMsg (Fo is_glebekit_CopyEntries copyB) copyB) rfPropose rfNew
open Glb in
theorem ntCalm:qQ Tryz.prog 35:=Nd is_glebelaw17_net_calm rfTick ntTakes ntCome
open Glb in
theorem law (dss:List (List D))(h:pI dss shape):fO Tryz.prog 7 (yj dss shape) [] fun r _=>r=.aE true:=by obtain⟨_,_,rfl,h2,h⟩:=KF h;cases KG h;obtain⟨l,rfl⟩:=Oz h2;exact (SI is_glebelaw17_RaftLeads ntBegin pick ntMove8 ntCalm rfLeader rfRole rfPropose ntTakes rfHard lastI rfCommit sameLog rfKnown l []).aA fun _ _ h=>h.1
theorem shaped:Glb.vw Tryz.prog 12 Tryz.f7.params.toList=some shape:=by kernel_rfl
theorem lifted (os:Os)(started:os.Started)(H:Type)(enc:TypeId×Value->H):
  ReturnsInHanded {} Tryz.checked os 7 .any (Rows.raftLeadsSpec.pre6 enc Tryz.prog Tryz.f7 Rows.raftLeadsRow.domain false) (Rows.raftLeadsSpec.post enc Tryz.prog Tryz.f7 false true false false):=by
 refine returnsInHanded_of_change (C:=Tryz.checked) own started (by kernel_rfl) Tryz.func7
  (ChangeSpec.witness6 (enc:=enc) (C:=Tryz.checked) false ⟨#[],#[.slice none 0 0],[]⟩ 12 (by kernel_rfl) (by kernel_rfl) (by kernel_rfl) (by kernel_rfl)) ?_
 intro W base args ds gs before hval0 hW hcnd _;have hval:∀(j:Nat) t v,Tryz.f7.params[j]?=some t->args[j]?=some v->Value.okWide Tryz.prog W .any base t v:=hval0;have hW':=hW;obtain⟨p,q,hA0,hV,rfl,hfz,hnd⟩:=hW;have hA:DataW.TrodAll enc Tryz.prog W 0 (fun _=>true) true Tryz.f7.params.toList args.toList ds p:=hA0;obtain⟨rfl,rfl⟩:=trodVars_none hV;simp only[List.append_nil]at hW';have hlen:∃d0,ds=[d0]:=by rw[Tryz.params7]at hA;obtain⟨v0,x0,h⟩:=trodAll_one hA;exact⟨x0,h.2.1⟩
 obtain⟨d0,rfl⟩:=hlen;refine (Glb.Qj (n:=12) shaped law hA (fun j t v a b=>hval j t v (by simpa using a) b)).mono fun e W' ⟨he,hg,hsame⟩=>?_;subst he;exact⟨_,rfl,Glb.RV (pa:=p) (pv:=[]) hW' (fun _ _ _=>(trodAll_cons_mk (shut_bool Tryz.underlying4 _) trodAll_mk0))
  (fun sp hsp=>Glb.Vn (by kernel_rfl) hsame _ _ _ _ (by kernel_rfl) hA hW'.lt hsp) (fun _ _=>rfl) (by simp)
  (hg.aA _) hg.2.1 (ok_one (by kernel_rfl) rfl (okWide_bool_mk Tryz.underlying4 _))⟩
theorem over:Rows.raftLeadsRow.holds Tryz.pinned (OpenSpec.ofChange Rows.raftLeadsSpec):=
 OpenClaim.holds_of_wide 7 Tryz.f7 rfl rfl rfl rfl rfl rfl rfl ⟨rfl,rfl,rfl,rfl,rfl⟩ rfl rfl rfl rfl rfl (by kernel_rfl) Tryz.func7 (by kernel_rfl)
  (of_decide_eq_true (by kernel_rfl)) (by unfold Func.isWrapper;first | (rw[if_pos (by decide +kernel)];kernel_rfl) | (rw[if_neg (by decide +kernel)];exact⟨rfl,rfl⟩))
  (fun os started H enc _=>lifted os started H enc)
theorem proved:Rows.RaftLeadsSaid:=
 over
#print axioms proved
end Go.Proofs.YtdeiamnhnfmilaaGreat.raftLeads
