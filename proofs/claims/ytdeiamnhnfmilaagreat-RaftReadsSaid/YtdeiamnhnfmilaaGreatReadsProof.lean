/-
  For all lists of moves, glebelaw17.RaftReads answers true: in a group of three a round is safe only if enough members have answered it in this Term. No condition beyond the statement's own.
-/
import Derived.Test.YtdeiamnhnfmilaaGreatRows
import Derived.Test.YtdeiamnhnfmilaaGreatIsReads
import Derived.Test.YtdeiamnhnfmilaaGreatGlbRdsA
import Derived.Test.YtdeiamnhnfmilaaGreatGlbNetB
import Derived.Test.YtdeiamnhnfmilaaGreatGlbConD
import Derived.Test.YtdeiamnhnfmilaaGreatSortX
import Derived.Test.YtdeiamnhnfmilaaGreatCloneX
import Derived.Test.YtdeiamnhnfmilaaGreatFcloneX
import Derived.WalkKit
import Derived.ProofKit
import Derived.OpenShut
import Derived.ShutString
namespace Go.Proofs.YtdeiamnhnfmilaaGreat.raftReads
open Go.ChangeShapes Go.WideShapes Go.ChangeAt Go.RowKit
open Go.ChangeMaps (open_string shut_string)
set_option linter.unusedVariables false
set_option maxRecDepth 100000
theorem own:ownKnob Tryz.prog.godebug=none:=by kernel_rfl
open Glb in
def shape:List (Bool×List Ty):=[(false,[.sl 3 Ce])]
open Glb in
theorem copyI:mQ Tryz.prog 41 .i64:=Iq is_glebekit_CopyInts
open Glb in
theorem copyB:mQ Tryz.prog 71 .u8:=Im is_glebekit_CopyBytes
open Glb in
theorem copyConf:t_ Tryz.prog 70:=Io is_glebekit_CopyConf copyI
open Glb in
theorem copyHard:vR Tryz.prog 23:=Ip is_glebekit_CopyHard (Ir is_glebekit_CopyLog (Df is_glebekit_CopyEntries copyB)) copyConf copyB
open Glb in
theorem same:p7 Tryz.prog 136 .i64:=IX is_glebekit_SameInts
open Glb in
theorem sameB:p7 Tryz.prog 74 .u8:=IT is_glebekit_SameBytes
open Glb in
theorem sameConf:yU Tryz.prog 73:=IU is_glebekit_SameConf same
open Glb in
theorem sameHard:yW Tryz.prog 25:=IW is_glebekit_SameHard (IY is_glebekit_SameLog (IV is_glebekit_SameEntries (yV is_glebekit_SameEntry sameB))) sameConf sameB
open Glb in
theorem pInt:qP Tryz.prog 245:=(Pb is_pack_Int (xI is_pack_room) (xz is_pack_number)).p
open Glb in
theorem pBlob:t7 Tryz.prog 181:=(GR is_pack_Blob (xI is_pack_room) (xz is_pack_number)).p
open Glb in
theorem vints:qZ Tryz.prog 218:=Nb is_image_ints pInt
open Glb in
theorem pConf:uj Tryz.prog 219:=MY is_image_putConf (Pc is_pack_Ints (xI is_pack_room) (xz is_pack_number))
open Glb in
theorem pEntry:ky Tryz.prog 251 fT.c kK.aC:=Pp is_image_putEntry vints pBlob
open Glb in
theorem pLog:ky Tryz.prog 217 fu.c kq.aC:=Pt is_image_putLog vints (Pq is_image_putList_api_Entry pInt) pEntry
open Glb in
theorem pVote:ky Tryz.prog 213 gX.c jE.aC:=Pu is_image_putVote vints
open Glb in
theorem pHard:ky Tryz.prog 212 fF.c jW.aC:=Pr is_image_putHard vints pLog pConf.p pBlob
open Glb in
theorem pPut:yG Tryz.prog 164:=IS is_image_Put (Ps is_image_putList_api_Hard pInt) pHard (Pv is_image_putList_api_Accepted pInt) pVote
open Glb in
theorem cloneKitB:vN Tryz.prog 107:=by
 refine⟨fun a c w=>(cloneZero a c w).mono ?_⟩;rintro e w' ⟨v,he,hown,hne,hb⟩;rcases hown.2 with⟨h1,_⟩ | ⟨g,cap,cur,h1,_⟩;·exact absurd h1 hne
 ·subst h1;exact⟨_,_,he,rfl,⟨hb.os,hb.output,hb.size,fun a ha=>World.frozen?_of_block (hb.block _ ha)⟩,hb.block⟩
open Glb in
theorem rdTake:wt Tryz.prog 187:=Sy is_pack_Reader_take (Fs is_pack_Reader_fail)
open Glb in
theorem rdInt:mT Tryz.prog 188:=Pa is_pack_Reader_Int rdTake
open Glb in
theorem rdBlob:sj Tryz.prog 129:=O_ is_pack_Reader_Blob rdInt rdTake
open Glb in
theorem rdInts:yB Tryz.prog 182:=Pd is_pack_Reader_Ints rdInt (Fs is_pack_Reader_fail)
open Glb in
theorem rdRead:sI Tryz.prog 113:=Pf is_pack_Read (C9 is_slices_Clone_byte_byte cloneKitB)
open Glb in
theorem sEntry:jt Tryz.prog 249 fT.c kK.aA:=LP is_image_source_entry rdInt rdBlob
open Glb in
theorem sLog:jt Tryz.prog 215 fu.c kq.aA:=Od is_image_source_log rdInt sEntry (N_ is_image_listOf_api_Entry (Mm is_image_getList_api_Entry rdInt is_pack_Reader_Left is_pack_Reader_Bad))
open Glb in
theorem sConf:jt Tryz.prog 114 fq.c iS.aA:=Lh is_image_source_conf rdInts
open Glb in
theorem sVote:jt Tryz.prog 168 gX.c jE.aA:=TP is_image_source_vote rdInt
open Glb in
theorem sHard:jt Tryz.prog 166 fF.c jW.aA:=Mz is_image_source_hard rdInt sLog sConf rdBlob
open Glb in
theorem sHards:o_ Tryz.prog 165 10 fF.c jW.aA:=Oa is_image_listOf_api_Hard (Mn is_image_getList_api_Hard rdInt is_pack_Reader_Left is_pack_Reader_Bad)
open Glb in
theorem sVotes:o_ Tryz.prog 167 5 gX.c jE.aA:=Ob is_image_listOf_api_Accepted (Mo is_image_getList_api_Accepted rdInt is_pack_Reader_Left is_pack_Reader_Bad)
open Glb in
theorem aheadI:xY Tryz.prog 171:=MW is_image_ahead
open Glb in
theorem lastI:o9 Tryz.prog 37:=Q9 is_rlog_Last
open Glb in
theorem termI:nU Tryz.prog 54:=Rc is_rlog_Term lastI
open Glb in
theorem pChange:ky Tryz.prog 169 fZ.c kP.aC:=Po is_image_putChange vints pLog pConf.p pBlob pVote
open Glb in
theorem sChange:jt Tryz.prog 170 fZ.c kP.aA:=K6 is_image_source_change rdInt sLog sConf rdBlob sVote
open Glb in
theorem applyI:r9 Tryz.prog 30:=Ic is_image_Apply (Mh is_image_fresh pPut rdRead sHard sHards sVote sVotes) (Mf is_image_freshChange pChange rdRead sChange) (I5 is_image_accept aheadI)
 (SO is_image_turn lastI termI (Ho is_rlog_Cut termI (xH is_rlog_fresh)))
open Glb in
theorem has:nO Tryz.prog 108:=Il is_slices_Contains_int_int (II is_slices_Index_int_int)
open Glb in
theorem check:yd Tryz.prog 68:=PB is_quorum_Check is_quorum_Check_f1 has (Q2 is_quorum_rises) (Fh is_quorum_count_int)
open Glb in
theorem getF:uf Tryz.prog 51:=IF is_image_GetConf rdRead sConf is_image_source_end is_pack_Reader_End check
open Glb in
theorem won:pt Tryz.prog 40:=PE is_quorum_Won (LO is_quorum_enough is_quorum_enough_f1 has (Fh is_quorum_count_int))
open Glb in
theorem sortk:DM Tryz.prog 228:=⟨by kernel_rfl,fun blk off cap zs w hH hb hl=>Any.slices_Sort_int Tryz.lays189 blk off cap zs w hH hb hl,fun p cap w=>Any.slices_Sort_int_none Tryz.lays189 p cap w⟩
open Glb in
theorem united:wv Tryz.prog 180:=SV is_quorum_united (Ik is_slices_Concat_int_int (IG is_slices_Grow_int_int)) (Sq sortk) (Ij is_slices_Compact_int_int)
open Glb in
theorem voters:ot Tryz.prog 109 fq.aI:=PD is_quorum_Voters united
open Glb in
theorem clone:vO Tryz.prog 122:=Ih is_slices_Clone_int_int (Glb.K8 Tryz.laysNm215)
open Glb in
theorem pick:sE Tryz.prog 22:=IP is_glebekit_Pick
open Glb in
theorem newerI:yE Tryz.prog 31:=Q_ is_rlog_Newer lastI
open Glb in
theorem vTime:wu Tryz.prog 43:=TO is_vote_Timeout
open Glb in
theorem vGrants:yy Tryz.prog 124:=TN is_vote_Grants newerI
open Glb in
theorem vAsks:x_ Tryz.prog 112:=TM is_vote_Asks lastI voters
open Glb in
theorem ofI:wc Tryz.prog 55:=OQ is_conf_Of (JP is_slices_Backward_api_Entry_api_Entry) (JQ is_slices_Backward_api_Entry_api_Entry_f1) getF clone
open Glb in
theorem sliceI:nT Tryz.prog 105:=Rb is_rlog_Slice lastI (xH is_rlog_fresh)
open Glb in
theorem appendI:vL Tryz.prog 116:=Q8 is_rlog_Append lastI (xH is_rlog_fresh) termI
open Glb in
theorem cutI:ub Tryz.prog 123:=Ho is_rlog_Cut termI (xH is_rlog_fresh)
open Glb in
theorem membersI:ot Tryz.prog 183 fq.aL:=PC is_quorum_Members united
open Glb in
theorem agreedI:xX Tryz.prog 120:=PA is_quorum_Agreed won
open Glb in
theorem fNextI:IL Tryz.prog 110:=L_ is_flow_Next (MV is_image_PutConf pConf).fp (GR is_pack_Blob (xI is_pack_room) (xz is_pack_number)) termI.p sliceI
open Glb in
theorem fNewI:IK Tryz.prog 184:=L9 is_flow_New
open Glb in
theorem fHeardI:yz Tryz.prog 127:=L7 is_flow_Heard
open Glb in
theorem cloneB17:qL Tryz.prog 107:=C9 is_slices_Clone_byte_byte cloneKitB
open Glb in
theorem ixFlow:vV Tryz.prog 125:=M4 is_slices_IndexFunc_api_Flow_api_Flow
open Glb in
theorem rfSend:qW Tryz.prog 61:=RZ is_raft_call_send
open Glb in
theorem rfTell:sK Tryz.prog 117:=SF is_raft_call_tell
open Glb in
theorem rfNow:pZ Tryz.prog 58:=OK is_raft_Raft_now ofI.p
open Glb in
theorem rfLast:pn Tryz.prog 49:=NQ is_raft_Raft_last lastI
open Glb in
theorem rfVoter:uD Tryz.prog 48:=TS is_raft_Raft_voter rfNow voters has
open Glb in
theorem rfBegin:r_ Tryz.prog 44:=JX is_raft_Raft_begin
open Glb in
theorem rfFollow:qO Tryz.prog 60:=Ma is_raft_Raft_follow
open Glb in
theorem rfTerm:uC Tryz.prog 59:=SG is_raft_call_term rfTell
open Glb in
theorem rfTo:p8 Tryz.prog 47:=SL is_raft_call_to fNextI rfSend
open Glb in
theorem rfEach:o8 Tryz.prog 46:=LG is_raft_Raft_each
open Glb in
theorem rfMeet:wm Tryz.prog 118:=Re is_raft_Raft_meet rfNow membersI fNewI is_raft_Raft_meet_f1 ixFlow
open Glb in
theorem rfSettle:uw Tryz.prog 53:=Rn is_raft_call_settle rfLast is_raft_call_settle_f1 rfEach rfNow agreedI termI
open Glb in
theorem rfLay:wj Tryz.prog 52:=Q6 is_raft_call_lay rfLast appendI.p sliceI rfTell rfMeet
open Glb in
theorem rfLead:wk Tryz.prog 111:=Q7 is_raft_call_lead rfLast rfMeet rfLay rfTo rfEach rfSettle
open Glb in
theorem rfEnd:yL Tryz.prog 45:=Qu is_raft_call_end ofI.p voters has rfFollow sliceI
open Glb in
theorem rfEndD:wh Tryz.prog 45:=Qt is_raft_call_end ofI.p voters has rfFollow sliceI
open Glb in
theorem rfStand:yP Tryz.prog 50:=Ro is_raft_call_stand rfTerm rfFollow vTime rfNow won rfLead vAsks rfSend
open Glb in
theorem rfAsked:yJ Tryz.prog 62:=PZ is_raft_call_asked vGrants rfTerm rfSend
open Glb in
theorem rfVoted:yR Tryz.prog 63:=RK is_raft_call_voted has rfVoter rfNow won rfLead
open Glb in
theorem rfAnswer:wg Tryz.prog 128:=PX is_raft_call_answer rfSend
open Glb in
theorem rfHeard:yM Tryz.prog 64:=QZ is_raft_call_heard is_raft_call_heard_f1 ixFlow fHeardI rfSettle rfLast rfTo
open Glb in
theorem rfAppend:yI Tryz.prog 65:=PY is_raft_call_append rfAnswer termI rfLast appendI.p sliceI rfTell
open Glb in
theorem rfFreshConf:sy Tryz.prog 106:=Mg is_raft_freshConf clone
open Glb in
theorem rfBase:yK Tryz.prog 56:=P4 is_raft_call_base termI cutI.cp rfFreshConf cloneB17 rfTell
open Glb in
theorem rfRestore:yO Tryz.prog 66:=Rk is_raft_call_restore rfAnswer rdRead rdBlob getF.q is_pack_Reader_End rfBase
open Glb in
theorem rfStep:yQ Tryz.prog 17:=Rp is_raft_Raft_Step rfBegin rfEndD rfVoter rfTerm rfFollow rfSend rfAsked rfVoted rfHeard rfAppend rfRestore
open Glb in
theorem rfTick:sG Tryz.prog 11:=Rq is_raft_Raft_Tick rfBegin rfEndD rfTo rfEach rfVoter rfLast rfStand
open Glb in
theorem rfPropose:uq Tryz.prog 12:=Ri is_raft_Raft_Propose getF.q rfLast rfBegin rfLay rfTo rfEach rfSettle rfEnd
open Glb in
theorem rfRead:uu Tryz.prog 13:=Rj is_raft_Raft_Read termI rfBegin rfTo rfEach
open Glb in
theorem rfSafe:uv Tryz.prog 16:=Rm is_raft_Raft_Safe is_raft_Raft_Safe_f1 rfEach rfNow won
open Glb in
theorem rfRole:ou Tryz.prog 19 eZ.aG:=Rl is_raft_Raft_Role
open Glb in
theorem rfCommit:ou Tryz.prog 38 eZ.aE:=P5 is_raft_Raft_Commit
open Glb in
theorem rfFresh:uk Tryz.prog 42:=QW is_raft_fresh sliceI rfFreshConf cloneB17
open Glb in
theorem rfHard:qV Tryz.prog 15:=QY is_raft_Raft_Hard rfFresh
open Glb in
theorem rfNew:um Tryz.prog 9:=Rf is_raft_New rfFresh.p vTime
open Glb in
theorem rfAlone:yH Tryz.prog 10:=PV is_glebelaw17_alone
open Glb in
theorem rfKnown:yN Tryz.prog 20:=Q5 is_glebelaw17_known rfAlone rfNew rfTick rfRole rfPropose rfCommit
open Glb in
theorem ntApplied:x9 Tryz.prog 101:=Jz is_glebelaw17_net_applied (yV is_glebekit_SameEntry sameB)
open Glb in
theorem ntLeader:yD Tryz.prog 102:=NW is_glebelaw17_net_leader sliceI (yV is_glebekit_SameEntry sameB)
open Glb in
theorem ntTakes:lQ Tryz.prog 36:=SE is_glebelaw17_net_takes applyI rfHard sameHard ntApplied rfRole ntLeader
open Glb in
theorem ntCome:vQ Tryz.prog 99:=Lg is_glebelaw17_net_come rfStep ntTakes
open Glb in
theorem ntBegin:yc Tryz.prog 33:=JU is_glebelaw17_begin rfNew copyHard
open Glb in
theorem ntMove7:ug (fun q=>q<=7) Tryz.prog 34:=Ov is_glebelaw17_net_move pick rfTick ntTakes ntCome (It is_glebekit_CopyMsg (Df is_glebekit_CopyEntries copyB) copyB) rfPropose
open Glb in
theorem law (dss:List (List D))(h:oq dss shape):fC Tryz.prog 8 (wD dss shape) [] fun r _=>r=.aE true:=by obtain⟨_,_,rfl,h2,h⟩:=Iv h;cases Iw h;obtain⟨l,rfl⟩:=L3 h2;exact (PU is_glebelaw17_RaftReads ntBegin pick ntMove7 rfRead ntTakes rfHard rfSafe rfRole copyI won rfKnown l []).aA fun _ _ h=>h.1
theorem shaped:Glb.tU Tryz.prog 12 Tryz.f8.params.toList=some shape:=by kernel_rfl
theorem lifted (os:Os)(started:os.Started)(H:Type)(enc:TypeId×Value->H):
  ReturnsInHanded {} Tryz.checked os 8 .any (Rows.raftReadsSpec.pre6 enc Tryz.prog Tryz.f8 Rows.raftReadsRow.domain false) (Rows.raftReadsSpec.post enc Tryz.prog Tryz.f8 false true false false):=by
 refine returnsInHanded_of_change (C:=Tryz.checked) own started (by kernel_rfl) Tryz.func8
  (ChangeSpec.witness6 (enc:=enc) (C:=Tryz.checked) false ⟨#[],#[.slice none 0 0],[]⟩ 12 (by kernel_rfl) (by kernel_rfl) (by kernel_rfl) (by kernel_rfl)) ?_
 intro W base args ds gs before hval0 hW hcnd _;have hval:∀(j:Nat) t v,Tryz.f8.params[j]?=some t->args[j]?=some v->Value.okWide Tryz.prog W .any base t v:=hval0;have hW':=hW;obtain⟨p,q,hA0,hV,rfl,hfz,hnd⟩:=hW;have hA:DataW.TrodAll enc Tryz.prog W 0 (fun _=>true) true Tryz.f8.params.toList args.toList ds p:=hA0;obtain⟨rfl,rfl⟩:=trodVars_none hV;simp only[List.append_nil]at hW';have hlen:∃d0,ds=[d0]:=by rw[Tryz.params8]at hA;obtain⟨v0,x0,h⟩:=trodAll_one hA;exact⟨x0,h.2.1⟩
 obtain⟨d0,rfl⟩:=hlen;refine (Glb.NS (n:=12) shaped law hA (fun j t v a b=>hval j t v (by simpa using a) b)).mono fun e W' ⟨he,hg,hsame⟩=>?_;subst he;exact⟨_,rfl,Glb.Pl (pa:=p) (pv:=[]) hW' (fun _ _ _=>(trodAll_cons_mk (shut_bool Tryz.underlying4 _) trodAll_mk0))
  (fun sp hsp=>Glb.SM (by kernel_rfl) hsame _ _ _ _ (by kernel_rfl) hA hW'.lt hsp) (fun _ _=>rfl) (by simp)
  (hg.aA _) hg.2.1 (ok_one (by kernel_rfl) rfl (okWide_bool_mk Tryz.underlying4 _))⟩
theorem over:Rows.raftReadsRow.holds Tryz.pinned (OpenSpec.ofChange Rows.raftReadsSpec):=
 OpenClaim.holds_of_wide 8 Tryz.f8 rfl rfl rfl rfl rfl rfl rfl ⟨rfl,rfl,rfl,rfl,rfl⟩ rfl rfl rfl rfl rfl (by kernel_rfl) Tryz.func8 (by kernel_rfl)
  (of_decide_eq_true (by kernel_rfl)) (by unfold Func.isWrapper;first | (rw[if_pos (by decide +kernel)];kernel_rfl) | (rw[if_neg (by decide +kernel)];exact⟨rfl,rfl⟩))
  (fun os started H enc _=>lifted os started H enc)
theorem proved:Rows.RaftReadsSaid:=
 over
#print axioms proved
end Go.Proofs.YtdeiamnhnfmilaaGreat.raftReads
