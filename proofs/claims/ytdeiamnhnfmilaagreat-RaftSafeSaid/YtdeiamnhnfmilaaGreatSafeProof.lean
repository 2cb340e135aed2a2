/-
  For all numbers of members and all lists of moves, glebelaw17.RaftSafe answers true: in each Term one at most leads, what is applied at an index is the same everywhere, who leads has all that was applied in elder Terms, and the changes make the Hard. No condition beyond the statement's own.
-/
import Derived.Test.YtdeiamnhnfmilaaGreatRows
import Derived.Test.YtdeiamnhnfmilaaGreatIsSafe
import Derived.Test.YtdeiamnhnfmilaaGreatGlbNetB
import Derived.Test.YtdeiamnhnfmilaaGreatGlbConD
import Derived.Test.YtdeiamnhnfmilaaGreatSortX
import Derived.Test.YtdeiamnhnfmilaaGreatCloneX
import Derived.Test.YtdeiamnhnfmilaaGreatFcloneX
import Derived.WalkKit
import Derived.ProofKit
import Derived.OpenShut
import Derived.ShutString
namespace Go.Proofs.YtdeiamnhnfmilaaGreat.raftSafe
open Go.ChangeShapes Go.WideShapes Go.ChangeAt Go.RowKit
open Go.ChangeMaps (open_string shut_string)
set_option linter.unusedVariables false
set_option maxRecDepth 100000
theorem own:ownKnob Tryz.prog.godebug=none:=by kernel_rfl
open Glb in
def shape:List (Bool×List Ty):=[(false,[.aA .i64]),(false,[.sl 3 CF])]
open Glb in
theorem copyI:ot Tryz.prog 41 .i64:=Je is_glebekit_CopyInts
open Glb in
theorem copyB:ot Tryz.prog 71 .u8:=Jb is_glebekit_CopyBytes
open Glb in
theorem copyConf:uj Tryz.prog 70:=Jc is_glebekit_CopyConf copyI
open Glb in
theorem copyHard:vW Tryz.prog 23:=Jd is_glebekit_CopyHard (Jf is_glebekit_CopyLog (DQ is_glebekit_CopyEntries copyB)) copyConf copyB
open Glb in
theorem same:pW Tryz.prog 136 .i64:=JH is_glebekit_SameInts
open Glb in
theorem sameB:pW Tryz.prog 74 .u8:=JD is_glebekit_SameBytes
open Glb in
theorem sameConf:zd Tryz.prog 73:=JE is_glebekit_SameConf same
open Glb in
theorem sameHard:zi Tryz.prog 25:=JG is_glebekit_SameHard (JI is_glebekit_SameLog (JF is_glebekit_SameEntries (ze is_glebekit_SameEntry sameB))) sameConf sameB
open Glb in
theorem pInt:qK Tryz.prog 245:=(PZ is_pack_Int (xU is_pack_room) (xK is_pack_number)).p
open Glb in
theorem pBlob:ud Tryz.prog 181:=(HB is_pack_Blob (xU is_pack_room) (xK is_pack_number)).p
open Glb in
theorem vints:qW Tryz.prog 218:=NS is_image_ints pInt
open Glb in
theorem pConf:uy Tryz.prog 219:=NN is_image_putConf (P4 is_pack_Ints (xU is_pack_room) (xK is_pack_number))
open Glb in
theorem pEntry:kr Tryz.prog 251 fU.c kx.aC:=Qe is_image_putEntry vints pBlob
open Glb in
theorem pLog:kr Tryz.prog 217 fA.c kj.aC:=Qi is_image_putLog vints (Qf is_image_putList_api_Entry pInt) pEntry
open Glb in
theorem pVote:kr Tryz.prog 213 hP.c jI.aC:=Qj is_image_putVote vints
open Glb in
theorem pHard:kr Tryz.prog 212 fF.c jX.aC:=Qg is_image_putHard vints pLog pConf.p pBlob
open Glb in
theorem pPut:yQ Tryz.prog 164:=JC is_image_Put (Qh is_image_putList_api_Hard pInt) pHard (Qk is_image_putList_api_Accepted pInt) pVote
open Glb in
theorem cloneKitB:r_ Tryz.prog 107:=by
 refine⟨fun a c w=>(cloneZero a c w).mono ?_⟩;rintro e w' ⟨v,he,hown,hne,hb⟩;rcases hown.2 with⟨h1,_⟩ | ⟨g,cap,cur,h1,_⟩;·exact absurd h1 hne
 ·subst h1;exact⟨_,_,he,rfl,⟨hb.os,hb.output,hb.size,fun a ha=>World.frozen?_of_block (hb.block _ ha)⟩,hb.block⟩
open Glb in
theorem rdTake:wH Tryz.prog 187:=Tf is_pack_Reader_take (Gd is_pack_Reader_fail)
open Glb in
theorem rdInt:mM Tryz.prog 188:=PY is_pack_Reader_Int rdTake
open Glb in
theorem rdBlob:r9 Tryz.prog 129:=PX is_pack_Reader_Blob rdInt rdTake
open Glb in
theorem rdInts:yL Tryz.prog 182:=P5 is_pack_Reader_Ints rdInt (Gd is_pack_Reader_fail)
open Glb in
theorem rdRead:sH Tryz.prog 113:=P7 is_pack_Read (DK is_slices_Clone_byte_byte cloneKitB)
open Glb in
theorem sEntry:jt Tryz.prog 249 fU.c kx.aA:=Mw is_image_source_entry rdInt rdBlob
open Glb in
theorem sLog:jt Tryz.prog 215 fA.c kj.aA:=OU is_image_source_log rdInt sEntry (OQ is_image_listOf_api_Entry (M_ is_image_getList_api_Entry rdInt is_pack_Reader_Left is_pack_Reader_Bad))
open Glb in
theorem sConf:jt Tryz.prog 114 fq.c iV.aA:=LU is_image_source_conf rdInts
open Glb in
theorem sVote:jt Tryz.prog 168 hP.c jI.aA:=Uv is_image_source_vote rdInt
open Glb in
theorem sHard:jt Tryz.prog 166 fF.c jX.aA:=No is_image_source_hard rdInt sLog sConf rdBlob
open Glb in
theorem sHards:o9 Tryz.prog 165 10 fF.c jX.aA:=OR is_image_listOf_api_Hard (Nb is_image_getList_api_Hard rdInt is_pack_Reader_Left is_pack_Reader_Bad)
open Glb in
theorem sVotes:o9 Tryz.prog 167 5 hP.c jI.aA:=OS is_image_listOf_api_Accepted (Nc is_image_getList_api_Accepted rdInt is_pack_Reader_Left is_pack_Reader_Bad)
open Glb in
theorem aheadI:ym Tryz.prog 171:=NL is_image_ahead
open Glb in
theorem lastI:oz Tryz.prog 37:=RN is_rlog_Last
open Glb in
theorem termI:nQ Tryz.prog 54:=RQ is_rlog_Term lastI
open Glb in
theorem pChange:kr Tryz.prog 169 gi.c kE.aC:=Qd is_image_putChange vints pLog pConf.p pBlob pVote
open Glb in
theorem sChange:jt Tryz.prog 170 gi.c kE.aA:=LI is_image_source_change rdInt sLog sConf rdBlob sVote
open Glb in
theorem applyI:rX Tryz.prog 30:=IZ is_image_Apply (MX is_image_fresh pPut rdRead sHard sHards sVote sVotes) (MV is_image_freshChange pChange rdRead sChange) (JN is_image_accept aheadI)
 (Ts is_image_turn lastI termI (Ie is_rlog_Cut termI (xS is_rlog_fresh)))
open Glb in
theorem has:mo Tryz.prog 108:=Ja is_slices_Contains_int_int (Ed is_slices_Index_int_int)
open Glb in
theorem check:ug Tryz.prog 68:=Qq is_quorum_Check is_quorum_Check_f1 has (RF is_quorum_rises) (FZ is_quorum_count_int)
open Glb in
theorem getF:uv Tryz.prog 51:=Jr is_image_GetConf rdRead sConf is_image_source_end is_pack_Reader_End check
open Glb in
theorem putF:vU Tryz.prog 175:=GG is_image_PutConf pConf
open Glb in
theorem won:uH Tryz.prog 40:=Qt is_quorum_Won (Mv is_quorum_enough is_quorum_enough_f1 has (FZ is_quorum_count_int))
open Glb in
theorem sortk:Ey Tryz.prog 228:=⟨by kernel_rfl,fun blk off cap zs w hH hb hl=>Any.slices_Sort_int Tryz.lays189 blk off cap zs w hH hb hl,fun p cap w=>Any.slices_Sort_int_none Tryz.lays189 p cap w⟩
open Glb in
theorem united:wJ Tryz.prog 180:=Tx is_quorum_united (I9 is_slices_Concat_int_int (Js is_slices_Grow_int_int)) (It sortk) (I8 is_slices_Compact_int_int)
open Glb in
theorem voters:oB Tryz.prog 109 fq.aK:=Qs is_quorum_Voters united
open Glb in
theorem clone:o8 Tryz.prog 122:=I5 is_slices_Clone_int_int (Glb.LK Tryz.laysNm215)
open Glb in
theorem may:wh Tryz.prog 225:=LZ is_conf_may check (E7 is_conf_members_busy)
open Glb in
theorem add:sJ Tryz.prog 174 fq.aM:=LV is_conf_Add may has clone
open Glb in
theorem drop:sJ Tryz.prog 173 fq.aI:=LW is_conf_Drop may (Ed is_slices_Index_int_int) clone (Jh is_slices_Delete_int_int)
open Glb in
theorem next:wk Tryz.prog 172:=LX is_conf_Next is_conf_Next_f1 has check (E7 is_conf_members_busy) (I_ is_slices_ContainsFunc_int_int is_slices_IndexFunc_int_int) clone (NV is_conf_members_joint clone (It sortk)) (Kb is_conf_members_alone clone)
open Glb in
theorem pick:pV Tryz.prog 22:=JA is_glebekit_Pick
open Glb in
theorem newerI:yO Tryz.prog 31:=RO is_rlog_Newer lastI
open Glb in
theorem vTime:wI Tryz.prog 43:=Uu is_vote_Timeout
open Glb in
theorem vGrants:yH Tryz.prog 124:=Ut is_vote_Grants newerI
open Glb in
theorem vAsks:yq Tryz.prog 112:=Us is_vote_Asks lastI voters
open Glb in
theorem ofI:wo Tryz.prog 55:=PE is_conf_Of (KF is_slices_Backward_api_Entry_api_Entry) (KG is_slices_Backward_api_Entry_api_Entry_f1) getF clone
open Glb in
theorem sliceI:nP Tryz.prog 105:=RP is_rlog_Slice lastI (xS is_rlog_fresh)
open Glb in
theorem appendI:vQ Tryz.prog 116:=RM is_rlog_Append lastI (xS is_rlog_fresh) termI
open Glb in
theorem cutI:uk Tryz.prog 123:=Ie is_rlog_Cut termI (xS is_rlog_fresh)
open Glb in
theorem membersI:oB Tryz.prog 183 fq.aQ:=Qr is_quorum_Members united
open Glb in
theorem agreedI:yk Tryz.prog 120:=Qp is_quorum_Agreed won
open Glb in
theorem fNextI:Jx Tryz.prog 110:=MP is_flow_Next (GG is_image_PutConf pConf).fp (HB is_pack_Blob (xU is_pack_room) (xK is_pack_number)) termI.p sliceI
open Glb in
theorem fNewI:Jw Tryz.prog 184:=MO is_flow_New
open Glb in
theorem fHeardI:yI Tryz.prog 127:=MN is_flow_Heard
open Glb in
theorem cloneB17:qF Tryz.prog 107:=DK is_slices_Clone_byte_byte cloneKitB
open Glb in
theorem ixFlow:v_ Tryz.prog 125:=NP is_slices_IndexFunc_api_Flow_api_Flow
open Glb in
theorem cloneKitF:r_ Tryz.prog 163:=by
 refine⟨fun a c w=>(fcloneZero a c w).mono ?_⟩;rintro e w' ⟨v,he,hown,hne,hb⟩;rcases hown.2 with⟨h1,_⟩ | ⟨g,cap,cur,h1,_⟩;·exact absurd h1 hne
 ·subst h1;exact⟨_,_,he,rfl,⟨hb.os,hb.output,hb.size,fun a ha=>World.frozen?_of_block (hb.block _ ha)⟩,hb.block⟩
open Glb in
theorem cloneFl:yv Tryz.prog 163:=I4 is_slices_Clone_api_Flow_api_Flow cloneKitF
open Glb in
theorem rfSend:qS Tryz.prog 61:=SI is_raft_call_send
open Glb in
theorem rfTell:sK Tryz.prog 117:=Tj is_raft_call_tell
open Glb in
theorem rfNow:qL Tryz.prog 58:=Py is_raft_Raft_now ofI.p
open Glb in
theorem rfLast:pt Tryz.prog 49:=OC is_raft_Raft_last lastI
open Glb in
theorem rfVoter:uG Tryz.prog 48:=Uy is_raft_Raft_voter rfNow voters has
open Glb in
theorem rfBegin:rZ Tryz.prog 44:=KO is_raft_Raft_begin
open Glb in
theorem rfFollow:qJ Tryz.prog 60:=MQ is_raft_Raft_follow
open Glb in
theorem rfTerm:uF Tryz.prog 59:=Tk is_raft_call_term rfTell
open Glb in
theorem rfTo:qU Tryz.prog 47:=Tp is_raft_call_to fNextI rfSend
open Glb in
theorem rfEach:qI Tryz.prog 46:=Mn is_raft_Raft_each
open Glb in
theorem rfMeet:wE Tryz.prog 118:=RR is_raft_Raft_meet rfNow membersI fNewI is_raft_Raft_meet_f1 ixFlow
open Glb in
theorem rfSettle:uA Tryz.prog 53:=R0 is_raft_call_settle rfLast is_raft_call_settle_f1 rfEach rfNow agreedI termI
open Glb in
theorem rfLay:wC Tryz.prog 52:=RK is_raft_call_lay rfLast appendI.p sliceI rfTell rfMeet
open Glb in
theorem rfLead:wD Tryz.prog 111:=RL is_raft_call_lead rfLast rfMeet rfLay rfTo rfEach rfSettle
open Glb in
theorem rfEnd:wy Tryz.prog 45:=Q6 is_raft_call_end ofI.p voters has rfFollow sliceI
open Glb in
theorem rfEndD:wx Tryz.prog 45:=Q5 is_raft_call_end ofI.p voters has rfFollow sliceI
open Glb in
theorem rfStand:yY Tryz.prog 50:=R_ is_raft_call_stand rfTerm rfFollow vTime rfNow won rfLead vAsks rfSend
open Glb in
theorem rfAsked:yT Tryz.prog 62:=QN is_raft_call_asked vGrants rfTerm rfSend
open Glb in
theorem rfVoted:y0 Tryz.prog 63:=Su is_raft_call_voted has rfVoter rfNow won rfLead
open Glb in
theorem rfAnswer:wt Tryz.prog 128:=QL is_raft_call_answer rfSend
open Glb in
theorem rfHeard:yV Tryz.prog 64:=RD is_raft_call_heard is_raft_call_heard_f1 ixFlow fHeardI rfSettle rfLast rfTo
open Glb in
theorem rfAppend:yS Tryz.prog 65:=QM is_raft_call_append rfAnswer termI rfLast appendI.p sliceI rfTell
open Glb in
theorem rfFreshConf:sw Tryz.prog 106:=MW is_raft_freshConf clone
open Glb in
theorem rfBase:wu Tryz.prog 56:=QO is_raft_call_base termI cutI.cp rfFreshConf cloneB17 rfTell
open Glb in
theorem rfRestore:yX Tryz.prog 66:=RY is_raft_call_restore rfAnswer rdRead rdBlob getF.q is_pack_Reader_End rfBase
open Glb in
theorem rfStep:yZ Tryz.prog 17:=Sa is_raft_Raft_Step rfBegin rfEndD rfVoter rfTerm rfFollow rfSend rfAsked rfVoted rfHeard rfAppend rfRestore
open Glb in
theorem rfTick:sF Tryz.prog 11:=Sb is_raft_Raft_Tick rfBegin rfEndD rfTo rfEach rfVoter rfLast rfStand
open Glb in
theorem rfPropose:qR Tryz.prog 12:=RW is_raft_Raft_Propose getF.q rfLast rfBegin rfLay rfTo rfEach rfSettle rfEnd
open Glb in
theorem rfCompact:wv Tryz.prog 14:=QQ is_raft_Raft_Compact ofI.p termI rfBegin rfBase rfEnd
open Glb in
theorem rfRole:pf Tryz.prog 19 fj.aI:=RZ is_raft_Raft_Role
open Glb in
theorem rfCommit:pf Tryz.prog 38 fj.aE:=QP is_raft_Raft_Commit
open Glb in
theorem rfFlows:yU Tryz.prog 91:=Ry is_raft_Raft_Flows cloneFl
open Glb in
theorem rfFresh:uz Tryz.prog 42:=Rz is_raft_fresh sliceI rfFreshConf cloneB17
open Glb in
theorem rfHard:wB Tryz.prog 15:=RB is_raft_Raft_Hard rfFresh
open Glb in
theorem rfNew:qQ Tryz.prog 9:=RT is_raft_New rfFresh.p vTime
open Glb in
theorem rfAlone:yR Tryz.prog 10:=QJ is_glebelaw17_alone
open Glb in
theorem rfKnown:yW Tryz.prog 20:=RJ is_glebelaw17_known rfAlone rfNew rfTick rfRole rfPropose rfCommit
open Glb in
theorem ntApplied:yp Tryz.prog 101:=Ko is_glebelaw17_net_applied (ze is_glebekit_SameEntry sameB)
open Glb in
theorem ntLeader:yN Tryz.prog 102:=OH is_glebelaw17_net_leader sliceI (ze is_glebekit_SameEntry sameB)
open Glb in
theorem ntTakes:lF Tryz.prog 36:=Ti is_glebelaw17_net_takes applyI rfHard sameHard ntApplied rfRole ntLeader
open Glb in
theorem ntCome:vT Tryz.prog 99:=LR is_glebelaw17_net_come rfStep ntTakes
open Glb in
theorem ntMembers:uw Tryz.prog 100:=O6 is_glebelaw17_net_members rfHard ofI.p rfRole rfCommit lastI rfFlows next.p drop.p add.p putF.fp rfPropose ntTakes
open Glb in
theorem ntMove:wj (fun _=>True) Tryz.prog 34:=Pn is_glebelaw17_net_move pick rfTick ntTakes ntCome (Jg is_glebekit_CopyMsg (DQ is_glebekit_CopyEntries copyB) copyB) rfPropose rfNew rfCompact ntMembers
open Glb in
theorem ntBegin:yr Tryz.prog 33:=KL is_glebelaw17_begin rfNew copyHard
open Glb in
theorem law (dss:List (List D))(h:ou dss shape):fC Tryz.prog 6 (wQ dss shape) [] fun r _=>r=.aE true:=by obtain⟨_,_,rfl,h1,h⟩:=DY h;obtain⟨_,_,rfl,h2,h⟩:=DY h;cases Jj h;obtain⟨m,rfl⟩:=MI h1;obtain⟨l,rfl⟩:=MK h2;exact (QI is_glebelaw17_RaftSafe pick ntBegin ntMove rfKnown m l []).aA fun _ _ h=>h.1
theorem shaped:Glb.tY Tryz.prog 12 Tryz.f6.params.toList=some shape:=by kernel_rfl
theorem lifted (os:Os)(started:os.Started)(H:Type)(enc:TypeId×Value->H):
  ReturnsInHanded {} Tryz.checked os 6 .any (Rows.raftSafeSpec.pre6 enc Tryz.prog Tryz.f6 Rows.raftSafeRow.domain false) (Rows.raftSafeSpec.post enc Tryz.prog Tryz.f6 false true false false):=by
 refine returnsInHanded_of_change (C:=Tryz.checked) own started (by kernel_rfl) Tryz.func6
  (ChangeSpec.witness6 (enc:=enc) (C:=Tryz.checked) false ⟨#[],#[.int .i64 0,.slice none 0 0],[]⟩ 12 (by kernel_rfl) (by kernel_rfl) (by kernel_rfl) (by kernel_rfl)) ?_
 intro W base args ds gs before hval0 hW hcnd _;have hval:∀(j:Nat) t v,Tryz.f6.params[j]?=some t->args[j]?=some v->Value.okWide Tryz.prog W .any base t v:=hval0;have hW':=hW;obtain⟨p,q,hA0,hV,rfl,hfz,hnd⟩:=hW;have hA:DataW.TrodAll enc Tryz.prog W 0 (fun _=>true) true Tryz.f6.params.toList args.toList ds p:=hA0;obtain⟨rfl,rfl⟩:=trodVars_none hV;simp only[List.append_nil]at hW';have hlen:∃d0 d1,ds=[d0,d1]:=by rw[Tryz.params6]at hA;obtain⟨v0,v1,x0,x1,p0,p1,h⟩:=trodAll_two hA;exact⟨x0,x1,h.2.1⟩
 obtain⟨d0,d1,rfl⟩:=hlen;refine (Glb.OD (n:=12) shaped law hA (fun j t v a b=>hval j t v (by simpa using a) b)).mono fun e W' ⟨he,hg,hsame⟩=>?_;subst he;exact⟨_,rfl,Glb.Qb (pa:=p) (pv:=[]) hW' (fun _ _ _=>(trodAll_cons_mk (shut_bool Tryz.underlying4 _) trodAll_mk0))
  (fun sp hsp=>Glb.Tq (by kernel_rfl) hsame _ _ _ _ (by kernel_rfl) hA hW'.lt hsp) (fun _ _=>rfl) (by simp)
  (hg.aA _) hg.2.1 (ok_one (by kernel_rfl) rfl (okWide_bool_mk Tryz.underlying4 _))⟩
theorem over:Rows.raftSafeRow.holds Tryz.pinned (OpenSpec.ofChange Rows.raftSafeSpec):=
 OpenClaim.holds_of_wide 6 Tryz.f6 rfl rfl rfl rfl rfl rfl rfl ⟨rfl,rfl,rfl,rfl,rfl⟩ rfl rfl rfl rfl rfl (by kernel_rfl) Tryz.func6 (by kernel_rfl)
  (of_decide_eq_true (by kernel_rfl)) (by unfold Func.isWrapper;first | (rw[if_pos (by decide +kernel)];kernel_rfl) | (rw[if_neg (by decide +kernel)];exact⟨rfl,rfl⟩))
  (fun os started H enc _=>lifted os started H enc)
theorem proved:Rows.RaftSafeSaid:=
 over
#print axioms proved
end Go.Proofs.YtdeiamnhnfmilaaGreat.raftSafe
