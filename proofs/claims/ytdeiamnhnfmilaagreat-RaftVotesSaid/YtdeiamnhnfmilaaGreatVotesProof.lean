/-
  For every Hard and every list of messages, glebelaw17.RaftVotes answers true: a member answers at most one of those that ask it for their votes in a Term with Ok, also if it is made anew, and never one whose log is elder than its own. No condition beyond the statement's own.
-/
import Derived.Test.YtdeiamnhnfmilaaGreatRows
import Derived.Test.YtdeiamnhnfmilaaGreatIsVotes
import Derived.Test.YtdeiamnhnfmilaaGreatGlbRafV
import Derived.Test.YtdeiamnhnfmilaaGreatGlbConD
import Derived.Test.YtdeiamnhnfmilaaGreatSortX
import Derived.Test.YtdeiamnhnfmilaaGreatCloneX
import Derived.WalkKit
import Derived.ProofKit
import Derived.OpenShut
import Derived.ShutString
namespace Go.Proofs.YtdeiamnhnfmilaaGreat.raftVotes
open Go.ChangeShapes Go.WideShapes Go.ChangeAt Go.RowKit
open Go.ChangeMaps (open_string shut_string)
set_option linter.unusedVariables false
set_option maxRecDepth 100000
theorem own:ownKnob Tryz.prog.godebug=none:=by kernel_rfl
open Glb in
def shape:List (Bool×List Ty):=[(true,t_v),(false,[.sl 17 w_1])]
open Glb in
theorem bigConf:e_a Tryz.prog 131:=q_6 U2_
open Glb in
theorem pInt:B_3 Tryz.prog 245:=(p_l m_a (f_4 F3_) (W6_ y4_)).p
open Glb in
theorem pBlob:v_m Tryz.prog 181:=(a_2 a_5 (f_4 F3_) (W6_ y4_)).p
open Glb in
theorem vints:d_2 Tryz.prog 218:=C_y g_t pInt
open Glb in
theorem pConf:O4_ Tryz.prog 219:=b_x b_u (i_3 j_r (f_4 F3_) (W6_ y4_))
open Glb in
theorem pEntry:e_z Tryz.prog 251 e0_.c v7_.enc:=l_r a_s vints pBlob
open Glb in
theorem pLog:e_z Tryz.prog 217 Log.c C6_.enc:=s_r d_e vints (i_y E7_ pInt) pEntry
open Glb in
theorem pVote:e_z Tryz.prog 213 v3_.c v9_.enc:=p_i b_s vints
open Glb in
theorem pHard:e_z Tryz.prog 212 d7_.c D0_.enc:=p_j b_t vints pLog pConf.p pBlob
open Glb in
theorem pPut:m_4 Tryz.prog 164:=D_g j_s (l_q G8_ pInt) pHard (l_p A3_ pInt) pVote
open Glb in
theorem cloneKitB:c_c Tryz.prog 107:=by
 refine⟨fun a c w=>(cloneZero a c w).mono ?_⟩
 rintro e w' ⟨v,he,hown,hne,hb⟩
 rcases hown.2 with⟨h1,_⟩ | ⟨g,cap,cur,h1,_⟩
 ·exact absurd h1 hne
 ·subst h1
  exact⟨_,_,he,rfl,⟨hb.os,hb.output,hb.size,fun a ha=>World.frozen?_of_block (hb.block _ ha)⟩,hb.block⟩
open Glb in
theorem rdTake:x_2 Tryz.prog 187:=z_n T2_ (t_6 C8_)
open Glb in
theorem rdInt:r_c Tryz.prog 188:=l_v X7_ rdTake
open Glb in
theorem rdBlob:q_4 Tryz.prog 129:=l_w T4_ rdInt rdTake
open Glb in
theorem rdInts:B_t Tryz.prog 182:=l_u T3_ rdInt (t_6 C8_)
open Glb in
theorem rdRead:q_v Tryz.prog 113:=i_2 j_q (k_v u2_ cloneKitB)
open Glb in
theorem sEntry:Z3_ Tryz.prog 249 e0_.c v7_.dec:=x_h N5_ rdInt rdBlob
open Glb in
theorem sLog:Z3_ Tryz.prog 215 Log.c C6_.dec:=C_k T5_ rdInt sEntry (g_k G9_ (j_0 E8_ rdInt v5_ w3_))
open Glb in
theorem sConf:Z3_ Tryz.prog 114 e3_.c j3_.dec:=x_o Q6_ rdInts
open Glb in
theorem sVote:Z3_ Tryz.prog 168 v3_.c v9_.dec:=y_y Q4_ rdInt
open Glb in
theorem sHard:Z3_ Tryz.prog 166 d7_.c D0_.dec:=A_4 Q5_ rdInt sLog sConf rdBlob
open Glb in
theorem sHards:k_t Tryz.prog 165 10 d7_.c D0_.dec:=j_h I0_ (m_h H0_ rdInt v5_ w3_)
open Glb in
theorem sVotes:k_t Tryz.prog 167 5 v3_.c v9_.dec:=j_g B5_ (m_g A4_ rdInt v5_ w3_)
open Glb in
theorem aheadI:n_e Tryz.prog 171:=e_p e_n
open Glb in
theorem lastI:Z2_ Tryz.prog 37:=i_q j_p
open Glb in
theorem termI:R3_ Tryz.prog 54:=i_p j_o lastI
open Glb in
theorem pChange:e_z Tryz.prog 169 b9_.c o9_.enc:=i_z X8_ vints pLog pConf.p pBlob pVote
open Glb in
theorem sChange:Z3_ Tryz.prog 170 b9_.c o9_.dec:=u_d M3_ rdInt sLog sConf rdBlob sVote
open Glb in
theorem applyI:e_c Tryz.prog 30:=y_b e_o (x_f e_m pPut rdRead sHard sHards sVote sVotes) (e_r Q7_ pChange rdRead sChange) (u_1 d_f aheadI)
 (z_l g_s lastI termI (c_x d_a termI (B2_ B4_)))
open Glb in
theorem has:d_7 Tryz.prog 108:=n_b E6_ (x_8 K2_)
open Glb in
theorem check:h_q Tryz.prog 68:=c_z d_d X6_ has (w_i d_c) (n_y C7_)
open Glb in
theorem getF:O6_ Tryz.prog 51:=q_z b_w rdRead sConf T6_ F4_ check
open Glb in
theorem won:u_3 Tryz.prog 40:=g_c g_r (t_8 b_p T1_ has (n_y C7_))
open Glb in
theorem sortk:u_5 Tryz.prog 228:=⟨by kernel_rfl,fun blk off cap zs w hH hb hl=>Any.slices_Sort_int Tryz.lays189 blk off cap zs w hH hb hl,fun p cap w=>Any.slices_Sort_int_none Tryz.lays189 p cap w⟩
open Glb in
theorem united:b_9 Tryz.prog 180:=r_u b_o (v_l H9_ (B_v M1_)) (z_r sortk) (q_3 G7_)
open Glb in
theorem voters:R5_ Tryz.prog 109 e3_.voters:=b_k b_q united
open Glb in
theorem clone:h_p Tryz.prog 122:=y_a K3_ (Glb.cloneKit Tryz.laysNm215)
open Glb in
theorem newerI:d_6 Tryz.prog 31:=f_6 g_p lastI
open Glb in
theorem bigEntries:G2_ Tryz.prog 78:=h_s M4_
open Glb in
theorem vTime:n_8 Tryz.prog 43:=c_f c_9
open Glb in
theorem vGrants:h_l Tryz.prog 124:=e_f e_k newerI
open Glb in
theorem vAsks:v_o Tryz.prog 112:=h_3 j_n lastI voters
open Glb in
theorem ofI:D_y Tryz.prog 55:=D_8 p_y (u_o t2_) (u_n q6_) getF clone
open Glb in
theorem sliceI:L0_ Tryz.prog 105:=f_5 g_o lastI (B2_ B4_)
open Glb in
theorem appendI:c_d Tryz.prog 116:=e_h e_l lastI (B2_ B4_) termI
open Glb in
theorem cutI:v_k Tryz.prog 123:=c_x d_a termI (B2_ B4_)
open Glb in
theorem membersI:R5_ Tryz.prog 183 e3_.members:=a_c a_r united
open Glb in
theorem agreedI:h_t Tryz.prog 120:=b_l b_r won
open Glb in
theorem fNextI:E_l Tryz.prog 110:=j_3 j_t (b_y b_v pConf).fp (a_2 a_5 (f_4 F3_) (W6_ y4_)) termI.p sliceI
open Glb in
theorem fNewI:J_v Tryz.prog 184:=j_4 m_b
open Glb in
theorem fHeardI:m_6 Tryz.prog 127:=g_y g_u
open Glb in
theorem cloneB17:L5_ Tryz.prog 107:=k_v u2_ cloneKitB
open Glb in
theorem ixFlow:L2_ Tryz.prog 125:=j_v t8_
open Glb in
theorem rfSend:d_4 Tryz.prog 61:=z_u a_i
open Glb in
theorem rfTell:f_t Tryz.prog 117:=z_m a_h
open Glb in
theorem rfNow:m_5 Tryz.prog 58:=C_i b_n ofI.p
open Glb in
theorem rfLast:L1_ Tryz.prog 49:=t_b a_m lastI
open Glb in
theorem rfVoter:d_1 Tryz.prog 48:=v_w X4_ rfNow voters has
open Glb in
theorem rfBegin:e_b Tryz.prog 44:=x_t X5_
open Glb in
theorem rfFollow:L3_ Tryz.prog 60:=t_z S9_
open Glb in
theorem rfTerm:d_3 Tryz.prog 59:=r_w a_g rfTell
open Glb in
theorem rfTo:B_r Tryz.prog 47:=D_4 d_b fNextI rfSend
open Glb in
theorem rfEach:d_9 Tryz.prog 46:=A_9 a_n
open Glb in
theorem rfMeet:h_f Tryz.prog 118:=w_g a_l rfNow membersI fNewI Q2_ ixFlow
open Glb in
theorem rfSettle:O3_ Tryz.prog 53:=o_5 S6_ rfLast M2_ rfEach rfNow agreedI termI
open Glb in
theorem rfLay:o_b Tryz.prog 52:=z_z b_m rfLast appendI.p sliceI rfTell rfMeet
open Glb in
theorem rfLead:h_g Tryz.prog 111:=w_h a_j rfLast rfMeet rfLay rfTo rfEach rfSettle
open Glb in
theorem rfEnd:v_c Tryz.prog 45:=A_d L6_ ofI.p voters has rfFollow sliceI
open Glb in
theorem rfEndD:x_5 Tryz.prog 45:=C_b L6_ ofI.p voters has rfFollow sliceI
open Glb in
theorem rfStand:h_e Tryz.prog 50:=r_6 X1_ rfTerm rfFollow vTime rfNow won rfLead vAsks rfSend
open Glb in
theorem rfAsked:h_j Tryz.prog 62:=s_k X3_ vGrants rfTerm rfSend
open Glb in
theorem rfVoted:h_d Tryz.prog 63:=r_2 X0_ has rfVoter rfNow won rfLead
open Glb in
theorem rfAnswer:Z1_ Tryz.prog 128:=p_f S8_ rfSend
open Glb in
theorem rfHeard:h_i Tryz.prog 64:=r_8 X2_ N4_ ixFlow fHeardI rfSettle rfLast rfTo
open Glb in
theorem rfAppend:d_5 Tryz.prog 65:=p_e S7_ rfAnswer termI rfLast appendI.p sliceI rfTell
open Glb in
theorem rfFreshConf:y2_ Tryz.prog 106:=j_2 a_f clone
open Glb in
theorem rfBase:m_3 Tryz.prog 56:=w_q a_k termI cutI.cp rfFreshConf cloneB17 rfTell
open Glb in
theorem rfRestore:a_x Tryz.prog 66:=l_e Q1_ rfAnswer rdRead rdBlob getF.q F4_ rfBase
open Glb in
theorem rfStep:m_0 Tryz.prog 17:=w_e a_p rfBegin rfEndD rfVoter rfTerm rfFollow rfSend rfAsked rfVoted rfHeard rfAppend rfRestore
open Glb in
theorem rfTick:m_z Tryz.prog 11:=w_d a_o rfBegin rfEndD rfTo rfEach rfVoter rfLast rfStand
open Glb in
theorem rfPropose:a_y Tryz.prog 12:=l_f Q3_ getF.q rfLast rfBegin rfLay rfTo rfEach rfSettle rfEnd
open Glb in
theorem rfRole:q_y Tryz.prog 19 b4_.role:=w_f a_q
open Glb in
theorem rfCommit:q_y Tryz.prog 38 b4_.commit:=p_d T0_
open Glb in
theorem rfFresh:c_a Tryz.prog 42:=r_9 g_q sliceI rfFreshConf cloneB17
open Glb in
theorem rfNew:o_a Tryz.prog 9:=z_y l_9 rfFresh.p vTime
open Glb in
theorem rfAlone:h_k Tryz.prog 10:=s_l T9_
open Glb in
theorem rfKnown:h_h Tryz.prog 20:=r_7 T7_ rfAlone rfNew rfTick rfRole rfPropose rfCommit
open Glb in
theorem law (dss:List (List D))(h:H3_ dss shape):a6_ Tryz.prog 5 (n_3 dss shape) [] fun r _=>r=.bool true:=by
 obtain⟨_,_,rfl,h1,h⟩:=b_e h
 obtain⟨_,_,rfl,h2,h⟩:=b_e h
 cases m_8 h
 obtain⟨x,rfl,hx⟩:=p_4 h1
 obtain⟨l,rfl,hl⟩:=m_k h2
 exact (i_v K4_ (o_8 U0_ (q_5 U1_ bigEntries bigConf) check) rfKnown rfNew (v_n X9_ bigEntries) rfStep applyI newerI (x_d T8_) x l hx hl []).mono fun _ _ h=>h.1
theorem shaped:Glb.shapes Tryz.prog 12 Tryz.f5.params.toList=some shape:=by kernel_rfl
theorem lifted (os:Os)(started:os.Started)(H:Type)(enc:TypeId×Value->H):
  ReturnsInHanded {} Tryz.checked os 5 .any (Rows.raftVotesSpec.pre6 enc Tryz.prog Tryz.f5 Rows.raftVotesRow.domain false) (Rows.raftVotesSpec.post enc Tryz.prog Tryz.f5 false true false false):=by
 refine returnsInHanded_of_change (C:=Tryz.checked) own started (by kernel_rfl) Tryz.func5
  (ChangeSpec.witness6 (enc:=enc) (C:=Tryz.checked) false ⟨#[],#[.agg #[.int .i64 0,.int .i64 0,.int .i64 0,.int .i64 0,.int .i64 0,.slice none 0 0,.slice none 0 0,.slice none 0 0,.slice none 0 0,.slice none 0 0],.slice none 0 0],[]⟩ 12 (by kernel_rfl) (by kernel_rfl) (by kernel_rfl) (by kernel_rfl)) ?_
 intro W base args ds gs before hval0 hW hcnd _
 have hval:∀(j:Nat) t v,Tryz.f5.params[j]?=some t->args[j]?=some v->Value.okWide Tryz.prog W .any base t v:=hval0
 have hW':=hW
 obtain⟨p,q,hA0,hV,rfl,hfz,hnd⟩:=hW
 have hA:DataW.TrodAll enc Tryz.prog W 0 (fun _=>true) true Tryz.f5.params.toList args.toList ds p:=hA0
 obtain⟨rfl,rfl⟩:=trodVars_none hV
 simp only[List.append_nil]at hW'
 have hlen:∃d0 d1,ds=[d0,d1]:=by
  rw[Tryz.params5]at hA
  obtain⟨v0,v1,x0,x1,p0,p1,h⟩:=trodAll_two hA
  exact⟨x0,x1,h.2.1⟩
 obtain⟨d0,d1,rfl⟩:=hlen
 refine (Glb.law_calls (n:=12) shaped law hA (fun j t v a b=>hval j t v (by simpa using a) b)).mono fun e W' ⟨he,hg,hsame⟩=>?_
 subst he
 exact⟨_,rfl,Glb.post_same (pa:=p) (pv:=[]) hW' (fun _ _ _=>(trodAll_cons_mk (shut_bool Tryz.underlying4 _) trodAll_mk0))
  (fun sp hsp=>Glb.trodAll_stays (by kernel_rfl) hsame _ _ _ _ (by kernel_rfl) hA hW'.lt hsp) (fun _ _=>rfl) (by simp)
  (hg.frame _) hg.2.1 (ok_one (by kernel_rfl) rfl (okWide_bool_mk Tryz.underlying4 _))⟩
theorem over:Rows.raftVotesRow.holds Tryz.pinned (OpenSpec.ofChange Rows.raftVotesSpec):=
 OpenClaim.holds_of_wide 5 Tryz.f5 rfl rfl rfl rfl rfl rfl rfl ⟨rfl,rfl,rfl,rfl,rfl⟩ rfl rfl rfl rfl rfl (by kernel_rfl) Tryz.func5 (by kernel_rfl)
  (of_decide_eq_true (by kernel_rfl)) (by unfold Func.isWrapper;first | (rw[if_pos (by decide +kernel)];kernel_rfl) | (rw[if_neg (by decide +kernel)];exact⟨rfl,rfl⟩))
  (fun os started H enc _=>lifted os started H enc)
theorem proved:Rows.RaftVotesSaid:=
 over
#print axioms proved
end Go.Proofs.YtdeiamnhnfmilaaGreat.raftVotes
