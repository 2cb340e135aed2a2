/-
  What the functions of the program are.
-/
import Derived.Test.YtdeiamnhnfmilaaGreatChecked
import Derived.Test.YtdeiamnhnfmilaaGreatGlbLibC
import Derived.Test.YtdeiamnhnfmilaaGreatGlbCconf
import Derived.Test.YtdeiamnhnfmilaaGreatGlbCconfof
import Derived.Test.YtdeiamnhnfmilaaGreatGlbCflow
import Derived.Test.YtdeiamnhnfmilaaGreatGlbCglebekit
import Derived.Test.YtdeiamnhnfmilaaGreatGlbCglebelaw17
import Derived.Test.YtdeiamnhnfmilaaGreatGlbCimage
import Derived.Test.YtdeiamnhnfmilaaGreatGlbCpack
import Derived.Test.YtdeiamnhnfmilaaGreatGlbCquorum
import Derived.Test.YtdeiamnhnfmilaaGreatGlbCraft
import Derived.Test.YtdeiamnhnfmilaaGreatGlbCread
import Derived.Test.YtdeiamnhnfmilaaGreatGlbCrlog
import Derived.Test.YtdeiamnhnfmilaaGreatGlbCvote
import Derived.KernelRfl
namespace Go.Proofs.YtdeiamnhnfmilaaGreat
open Go Glb Go.Proofs
set_option maxRecDepth 100000
theorem K4_:Is Tryz.prog 5 (i2_ 21 20 9 27 17 30 31 32):=⟨by kernel_rfl,by kernel_rfl⟩
theorem l_9:Is Tryz.prog 9 (I5_ 42 43):=⟨by kernel_rfl,by kernel_rfl⟩
theorem T9_:Is Tryz.prog 10 (m7_):=⟨by kernel_rfl,by kernel_rfl⟩
theorem a_o:IsD Tryz.prog 11 (h9_ 44 45 47 46 48 49 50):=⟨by kernel_rfl,by kernel_rfl⟩
theorem Q3_:Is Tryz.prog 12 (b6_ 51 49 44 52 47 46 53 45):=⟨by kernel_rfl,by kernel_rfl⟩
theorem a_p:IsD Tryz.prog 17 (a9_ 44 45 48 59 60 61 62 63 64 65 66):=⟨by kernel_rfl,by kernel_rfl⟩
theorem a_q:Is Tryz.prog 19 (p8_):=⟨by kernel_rfl,by kernel_rfl⟩
theorem T7_:Is Tryz.prog 20 (m5_ 10 9 11 19 12 38):=⟨by kernel_rfl,by kernel_rfl⟩
theorem U0_:Is Tryz.prog 21 (m8_ 67 68):=⟨by kernel_rfl,by kernel_rfl⟩
theorem X9_:Is Tryz.prog 27 (o4_ 78):=⟨by kernel_rfl,by kernel_rfl⟩
theorem e_o:Is Tryz.prog 30 (x0_ 95 96 97 98):=⟨by kernel_rfl,by kernel_rfl⟩
theorem g_p:Is Tryz.prog 31 (z0_ 37):=⟨by kernel_rfl,by kernel_rfl⟩
theorem T8_:Is Tryz.prog 32 (m6_):=⟨by kernel_rfl,by kernel_rfl⟩
theorem j_p:Is Tryz.prog 37 (D3_):=⟨by kernel_rfl,by kernel_rfl⟩
theorem T0_:Is Tryz.prog 38 (l9_):=⟨by kernel_rfl,by kernel_rfl⟩
theorem g_r:Is Tryz.prog 40 (z3_ 104):=⟨by kernel_rfl,by kernel_rfl⟩
theorem g_q:Is Tryz.prog 42 (z1_ 105 106 107):=⟨by kernel_rfl,by kernel_rfl⟩
theorem c_9:Is Tryz.prog 43 (u3_):=⟨by kernel_rfl,by kernel_rfl⟩
theorem X5_:Is Tryz.prog 44 (n9_):=⟨by kernel_rfl,by kernel_rfl⟩
theorem L6_:Is Tryz.prog 45 (c4_ 55 109 108 60 105):=⟨by kernel_rfl,by kernel_rfl⟩
theorem a_n:Is Tryz.prog 46 (p7_):=⟨by kernel_rfl,by kernel_rfl⟩
theorem d_b:Is Tryz.prog 47 (u5_ 110 61):=⟨by kernel_rfl,by kernel_rfl⟩
theorem X4_:Is Tryz.prog 48 (n8_ 58 109 108):=⟨by kernel_rfl,by kernel_rfl⟩
theorem a_m:Is Tryz.prog 49 (p6_ 37):=⟨by kernel_rfl,by kernel_rfl⟩
theorem X1_:Is Tryz.prog 50 (n6_ 59 60 43 58 40 111 112 61):=⟨by kernel_rfl,by kernel_rfl⟩
theorem b_w:Is Tryz.prog 51 (s7_ 113 114 115 68):=⟨by kernel_rfl,by kernel_rfl⟩
theorem b_m:Is Tryz.prog 52 (r5_ 49 116 105 117 118):=⟨by kernel_rfl,by kernel_rfl⟩
theorem S6_:Is Tryz.prog 53 (l6_ 49 119 46 58 120 54):=⟨by kernel_rfl,by kernel_rfl⟩
theorem j_o:Is Tryz.prog 54 (D2_ 37):=⟨by kernel_rfl,by kernel_rfl⟩
theorem p_y:IsR Tryz.prog false 55 (M9_ 121 51 122):=⟨by kernel_rfl,by kernel_rfl⟩
theorem a_k:Is Tryz.prog 56 (d1_ 54 123 106 107 117):=⟨by kernel_rfl,by kernel_rfl⟩
theorem b_n:Is Tryz.prog 58 (r6_ 55):=⟨by kernel_rfl,by kernel_rfl⟩
theorem a_g:Is Tryz.prog 59 (p1_ 117):=⟨by kernel_rfl,by kernel_rfl⟩
theorem S9_:Is Tryz.prog 60 (l8_):=⟨by kernel_rfl,by kernel_rfl⟩
theorem a_i:Is Tryz.prog 61 (p3_):=⟨by kernel_rfl,by kernel_rfl⟩
theorem X3_:Is Tryz.prog 62 (c5_ 124 59 61):=⟨by kernel_rfl,by kernel_rfl⟩
theorem X0_:Is Tryz.prog 63 (n5_ 108 48 58 40 111):=⟨by kernel_rfl,by kernel_rfl⟩
theorem X2_:Is Tryz.prog 64 (n7_ 126 125 127 53 49 47):=⟨by kernel_rfl,by kernel_rfl⟩
theorem S7_:Is Tryz.prog 65 (b8_ 128 54 49 116 105 117):=⟨by kernel_rfl,by kernel_rfl⟩
theorem Q1_:Is Tryz.prog 66 (k5_ 128 113 129 51 130 56):=⟨by kernel_rfl,by kernel_rfl⟩
theorem U1_:Is Tryz.prog 67 (m9_ 78 131):=⟨by kernel_rfl,by kernel_rfl⟩
theorem d_d:Is Tryz.prog 68 (u7_ 132 133 134):=⟨by kernel_rfl,by kernel_rfl⟩
theorem M4_:Is Tryz.prog 78 (i9_):=⟨by kernel_rfl,by kernel_rfl⟩
theorem e_m:Is Tryz.prog 95 (w8_ 164 113 166 165 168 167):=⟨by kernel_rfl,by kernel_rfl⟩
theorem Q7_:Is Tryz.prog 96 (k9_ 169 113 170):=⟨by kernel_rfl,by kernel_rfl⟩
theorem d_f:Is Tryz.prog 97 (u9_ 171):=⟨by kernel_rfl,by kernel_rfl⟩
theorem g_s:Is Tryz.prog 98 (z5_ 37 54 123):=⟨by kernel_rfl,by kernel_rfl⟩
theorem b_p:Is Tryz.prog 104 (r8_ 177 134):=⟨by kernel_rfl,by kernel_rfl⟩
theorem g_o:Is Tryz.prog 105 (y9_ 37 178):=⟨by kernel_rfl,by kernel_rfl⟩
theorem a_f:Is Tryz.prog 106 (p0_ 122):=⟨by kernel_rfl,by kernel_rfl⟩
theorem u2_:Is Tryz.prog 107 (d4_):=⟨by kernel_rfl,by kernel_rfl⟩
theorem E6_:Is Tryz.prog 108 (f8_ 179):=⟨by kernel_rfl,by kernel_rfl⟩
theorem b_q:Is Tryz.prog 109 (r9_ 180):=⟨by kernel_rfl,by kernel_rfl⟩
theorem j_t:Is Tryz.prog 110 (E1_ 175 181 54 105):=⟨by kernel_rfl,by kernel_rfl⟩
theorem a_j:Is Tryz.prog 111 (p4_ 49 118 52 47 46 53):=⟨by kernel_rfl,by kernel_rfl⟩
theorem j_n:Is Tryz.prog 112 (D1_ 37 109):=⟨by kernel_rfl,by kernel_rfl⟩
theorem j_q:Is Tryz.prog 113 (D7_ 107):=⟨by kernel_rfl,by kernel_rfl⟩
theorem Q6_:Is Tryz.prog 114 (k8_ 182):=⟨by kernel_rfl,by kernel_rfl⟩
theorem T6_:Is Tryz.prog 115 (j1_ 130):=⟨by kernel_rfl,by kernel_rfl⟩
theorem e_l:Is Tryz.prog 116 (w6_ 37 178 54):=⟨by kernel_rfl,by kernel_rfl⟩
theorem a_h:Is Tryz.prog 117 (p2_):=⟨by kernel_rfl,by kernel_rfl⟩
theorem a_l:Is Tryz.prog 118 (p5_ 58 183 184 185 125):=⟨by kernel_rfl,by kernel_rfl⟩
theorem M2_:Is Tryz.prog 119 (g8_):=⟨by kernel_rfl,by kernel_rfl⟩
theorem b_r:Is Tryz.prog 120 (s0_ 40):=⟨by kernel_rfl,by kernel_rfl⟩
theorem t2_:Is Tryz.prog 121 (c8_ 186):=⟨by kernel_rfl,by kernel_rfl⟩
theorem K3_:Is Tryz.prog 122 (d8_):=⟨by kernel_rfl,by kernel_rfl⟩
theorem d_a:Is Tryz.prog 123 (I4_ 54 178):=⟨by kernel_rfl,by kernel_rfl⟩
theorem e_k:Is Tryz.prog 124 (w5_ 31):=⟨by kernel_rfl,by kernel_rfl⟩
theorem t8_:Is Tryz.prog 125 (d0_):=⟨by kernel_rfl,by kernel_rfl⟩
theorem N4_:Is Tryz.prog 126 (h8_):=⟨by kernel_rfl,by kernel_rfl⟩
theorem g_u:Is Tryz.prog 127 (z9_):=⟨by kernel_rfl,by kernel_rfl⟩
theorem S8_:Is Tryz.prog 128 (l7_ 61):=⟨by kernel_rfl,by kernel_rfl⟩
theorem T4_:Is Tryz.prog 129 (m3_ 188 187):=⟨by kernel_rfl,by kernel_rfl⟩
theorem F4_:Is Tryz.prog 130 (e4_):=⟨by kernel_rfl,by kernel_rfl⟩
theorem U2_:Is Tryz.prog 131 (n0_):=⟨by kernel_rfl,by kernel_rfl⟩
theorem X6_:Is Tryz.prog 132 (k3_ 108):=⟨by kernel_rfl,by kernel_rfl⟩
theorem d_c:Is Tryz.prog 133 (u6_):=⟨by kernel_rfl,by kernel_rfl⟩
theorem C7_:Is Tryz.prog 134 (m0_):=⟨by kernel_rfl,by kernel_rfl⟩
theorem j_s:Is Tryz.prog 164 (E0_ 211 212 210 213):=⟨by kernel_rfl,by kernel_rfl⟩
theorem I0_:Is Tryz.prog 165 (h6_ 214):=⟨by kernel_rfl,by kernel_rfl⟩
theorem Q5_:Is Tryz.prog 166 (k7_ 188 215 114 129):=⟨by kernel_rfl,by kernel_rfl⟩
theorem B5_:Is Tryz.prog 167 (e9_ 216):=⟨by kernel_rfl,by kernel_rfl⟩
theorem Q4_:Is Tryz.prog 168 (k6_ 188):=⟨by kernel_rfl,by kernel_rfl⟩
theorem X8_:Is Tryz.prog 169 (o2_ 218 217 219 181 213):=⟨by kernel_rfl,by kernel_rfl⟩
theorem M3_:Is Tryz.prog 170 (i8_ 188 215 114 129 168):=⟨by kernel_rfl,by kernel_rfl⟩
theorem e_n:Is Tryz.prog 171 (w9_):=⟨by kernel_rfl,by kernel_rfl⟩
theorem b_v:Is Tryz.prog 175 (s6_ 219):=⟨by kernel_rfl,by kernel_rfl⟩
theorem T1_:Is Tryz.prog 177 (j0_ 108):=⟨by kernel_rfl,by kernel_rfl⟩
theorem B4_:Is Tryz.prog 178 (y8_):=⟨by kernel_rfl,by kernel_rfl⟩
theorem K2_:Is Tryz.prog 179 (i1_):=⟨by kernel_rfl,by kernel_rfl⟩
theorem b_o:Is Tryz.prog 180 (r7_ 227 228 229):=⟨by kernel_rfl,by kernel_rfl⟩
theorem a_5:Is Tryz.prog 181 (D9_ 231 230):=⟨by kernel_rfl,by kernel_rfl⟩
theorem T3_:Is Tryz.prog 182 (m2_ 188 232):=⟨by kernel_rfl,by kernel_rfl⟩
theorem a_r:Is Tryz.prog 183 (p9_ 180):=⟨by kernel_rfl,by kernel_rfl⟩
theorem m_b:Is Tryz.prog 184 (I8_):=⟨by kernel_rfl,by kernel_rfl⟩
theorem Q2_:Is Tryz.prog 185 (i4_):=⟨by kernel_rfl,by kernel_rfl⟩
theorem q6_:IsR Tryz.prog true 186 (d5_):=⟨by kernel_rfl,by kernel_rfl⟩
theorem T2_:Is Tryz.prog 187 (f4_ 232):=⟨by kernel_rfl,by kernel_rfl⟩
theorem X7_:Is Tryz.prog 188 (o0_ 187):=⟨by kernel_rfl,by kernel_rfl⟩
theorem A3_:Is Tryz.prog 210 (e6_ 245):=⟨by kernel_rfl,by kernel_rfl⟩
theorem G8_:Is Tryz.prog 211 (h0_ 245):=⟨by kernel_rfl,by kernel_rfl⟩
theorem b_t:Is Tryz.prog 212 (s3_ 218 217 219 181):=⟨by kernel_rfl,by kernel_rfl⟩
theorem b_s:Is Tryz.prog 213 (s1_ 218):=⟨by kernel_rfl,by kernel_rfl⟩
theorem H0_:Is Tryz.prog 214 (h2_ 188 246 247):=⟨by kernel_rfl,by kernel_rfl⟩
theorem T5_:Is Tryz.prog 215 (m4_ 188 249 248):=⟨by kernel_rfl,by kernel_rfl⟩
theorem A4_:Is Tryz.prog 216 (e7_ 188 246 247):=⟨by kernel_rfl,by kernel_rfl⟩
theorem d_e:Is Tryz.prog 217 (u8_ 218 250 251):=⟨by kernel_rfl,by kernel_rfl⟩
theorem g_t:Is Tryz.prog 218 (z6_ 245):=⟨by kernel_rfl,by kernel_rfl⟩
theorem b_u:Is Tryz.prog 219 (s4_ 252):=⟨by kernel_rfl,by kernel_rfl⟩
theorem H9_:Is Tryz.prog 227 (h5_ 254):=⟨by kernel_rfl,by kernel_rfl⟩
theorem G7_:Is Tryz.prog 229 (g7_):=⟨by kernel_rfl,by kernel_rfl⟩
theorem y4_:Is Tryz.prog 230 (w7_):=⟨by kernel_rfl,by kernel_rfl⟩
theorem F3_:Is Tryz.prog 231 (D6_):=⟨by kernel_rfl,by kernel_rfl⟩
theorem C8_:Is Tryz.prog 232 (m1_):=⟨by kernel_rfl,by kernel_rfl⟩
theorem m_a:Is Tryz.prog 245 (I7_ 231 230):=⟨by kernel_rfl,by kernel_rfl⟩
theorem v5_:Is Tryz.prog 246 (f5_):=⟨by kernel_rfl,by kernel_rfl⟩
theorem w3_:Is Tryz.prog 247 (g9_):=⟨by kernel_rfl,by kernel_rfl⟩
theorem G9_:Is Tryz.prog 248 (h1_ 261):=⟨by kernel_rfl,by kernel_rfl⟩
theorem N5_:Is Tryz.prog 249 (j6_ 188 129):=⟨by kernel_rfl,by kernel_rfl⟩
theorem E7_:Is Tryz.prog 250 (f9_ 245):=⟨by kernel_rfl,by kernel_rfl⟩
theorem a_s:Is Tryz.prog 251 (q0_ 218 181):=⟨by kernel_rfl,by kernel_rfl⟩
theorem j_r:Is Tryz.prog 252 (D8_ 231 230):=⟨by kernel_rfl,by kernel_rfl⟩
theorem M1_:Is Tryz.prog 254 (i7_):=⟨by kernel_rfl,by kernel_rfl⟩
theorem E8_:Is Tryz.prog 261 (g0_ 188 246 247):=⟨by kernel_rfl,by kernel_rfl⟩
end Go.Proofs.YtdeiamnhnfmilaaGreat
