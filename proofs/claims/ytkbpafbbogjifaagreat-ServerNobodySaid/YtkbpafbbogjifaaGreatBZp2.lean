/- A runner's tables: functions. -/
import Derived.Test.YtkbpafbbogjifaaGreatBc
import Derived.Test.YtkbpafbbogjifaaGreatProg
namespace Go.Proofs.YtkbpafbbogjifaaGreat
open Go Go.Proofs.Rn
noncomputable def fi112 : FI := ⟨Tryz.f112, [(4, ⟨[0, 1, 0, 4, 15, 31, 63, 127, 255, 511, 1023, 2047, 2047, 8191, 16383, 32767], 6152, (.h [0, 1, 2] (.o 3 (.h [4, 5, 6] (.o 7 (.h [8, 9, 10, 11, 12] (.o 13 (.h [14, 15] .nil)))))))⟩), (15, ⟨[0, 1, 3, 7, 15, 31, 63, 127, 255, 511, 63, 1087, 3135, 7231, 15423, 32767, 65535], 0, (.h [0, 1, 2, 3, 4, 5, 6, 7, 8, 9, 10, 11, 12, 13, 14] (.o 15 (.h [16] .nil)))⟩), (20, ⟨[0, 0, 0, 0, 8, 1, 33, 97, 251, 507, 1019, 2047, 4095, 8191], 128, (.h [0, 1, 2, 3, 4, 5, 6] (.o 7 (.h [8, 9] (.o 10 (.h [11, 12] (.o 13 .nil))))))⟩)]⟩
theorem fi112_ok : fnB fi112 = true := by decide +kernel
noncomputable def fi113 : FI := ⟨Tryz.f113, []⟩
theorem fi113_ok : fnB fi113 = true := by decide +kernel
noncomputable def fi114 : FI := ⟨Tryz.f114, []⟩
theorem fi114_ok : fnB fi114 = true := by decide +kernel
noncomputable def fi115 : FI := ⟨Tryz.f115, [(6, ⟨[0, 1, 0, 0, 8, 28, 60, 127, 255, 511], 48, (.h [0, 1, 2, 3] (.o 4 (.h [5] (.o 6 (.o 7 (.h [8] (.o 9 .nil)))))))⟩)]⟩
theorem fi115_ok : fnB fi115 = true := by decide +kernel
noncomputable def fi116 : FI := ⟨Tryz.f116, []⟩
theorem fi116_ok : fnB fi116 = true := by decide +kernel
noncomputable def fi117 : FI := ⟨Tryz.f117, [(2, ⟨[0, 1, 3, 7, 15, 31, 63, 127, 255, 255, 1023, 255, 4095, 8191, 16383, 32767], 1024, (.h [0, 1, 2, 3, 4, 5, 6, 7, 8, 9, 11] (.o 10 (.o 12 (.h [13, 14, 15] .nil))))⟩)]⟩
theorem fi117_ok : fnB fi117 = true := by decide +kernel
noncomputable def fi118 : FI := ⟨Tryz.f118, []⟩
theorem fi118_ok : fnB fi118 = true := by decide +kernel
noncomputable def fi119 : FI := ⟨Tryz.f119, []⟩
theorem fi119_ok : fnB fi119 = true := by decide +kernel
noncomputable def fi120 : FI := ⟨Tryz.f120, []⟩
theorem fi120_ok : fnB fi120 = true := by decide +kernel
noncomputable def fi121 : FI := ⟨Tryz.f121, []⟩
theorem fi121_ok : fnB fi121 = true := by decide +kernel
noncomputable def fi122 : FI := ⟨Tryz.f122, []⟩
theorem fi122_ok : fnB fi122 = true := by decide +kernel
noncomputable def fi123 : FI := ⟨Tryz.f123, [(8, ⟨[0, 0, 2, 6, 14, 0, 0, 126, 0, 0, 0, 1024, 3840, 7936, 16382, 32767, 65535, 131071], 6144, (.h [0, 1, 2, 3, 4, 5, 6, 7, 8, 9, 10] (.o 11 (.h [12] (.o 13 (.o 14 (.h [15, 16] (.o 17 .nil)))))))⟩)]⟩
theorem fi123_ok : fnB fi123 = true := by decide +kernel
noncomputable def fi124 : FI := ⟨Tryz.f124, []⟩
theorem fi124_ok : fnB fi124 = true := by decide +kernel
noncomputable def fi125 : FI := ⟨Tryz.f125, [(0, ⟨[0, 1, 3, 7, 0, 16, 48, 112, 0, 256, 768, 1792, 0, 4096, 12288, 28672, 61440, 0, 131072, 393216, 917504, 1966080, 4194288, 8388607], 6291456, (.h [0, 1, 2, 3, 4, 5, 6, 7, 8, 9, 10, 11, 12, 13, 14, 15, 16, 17, 18, 19, 20] (.o 21 (.o 22 (.o 23 .nil))))⟩)]⟩
theorem fi125_ok : fnB fi125 = true := by decide +kernel
noncomputable def fi126 : FI := ⟨Tryz.f126, []⟩
theorem fi126_ok : fnB fi126 = true := by decide +kernel
noncomputable def fi127 : FI := ⟨Tryz.f127, [(3, ⟨[0, 1, 3, 7, 15, 0, 32, 96, 224, 511, 1023, 2047, 4095], 16, (.h [0, 1, 2, 3, 5, 6, 7, 8] (.o 4 (.o 9 (.h [10] (.o 11 (.h [12] .nil))))))⟩)]⟩
theorem fi127_ok : fnB fi127 = true := by decide +kernel
noncomputable def fi128 : FI := ⟨Tryz.f128, []⟩
theorem fi128_ok : fnB fi128 = true := by decide +kernel
noncomputable def fi129 : FI := ⟨Tryz.f129, []⟩
theorem fi129_ok : fnB fi129 = true := by decide +kernel
noncomputable def fi130 : FI := ⟨Tryz.f130, [(3, ⟨[0, 1, 3, 7, 0, 16, 48, 112, 240, 511, 1023, 2047], 256, (.h [0, 1, 2, 3, 4, 5, 6, 7] (.o 8 (.h [9] (.o 10 (.h [11] .nil)))))⟩)]⟩
theorem fi130_ok : fnB fi130 = true := by decide +kernel
noncomputable def fi131 : FI := ⟨Tryz.f131, []⟩
theorem fi131_ok : fnB fi131 = true := by decide +kernel
noncomputable def fi132 : FI := ⟨Tryz.f132, [(3, ⟨[0, 1, 3, 7, 0, 16, 63, 127, 255], 8, (.h [0, 1, 2, 4, 5] (.o 3 (.o 6 (.o 7 (.h [8] .nil)))))⟩)]⟩
theorem fi132_ok : fnB fi132 = true := by decide +kernel
noncomputable def fi133 : FI := ⟨Tryz.f133, []⟩
theorem fi133_ok : fnB fi133 = true := by decide +kernel
noncomputable def fi134 : FI := ⟨Tryz.f134, []⟩
theorem fi134_ok : fnB fi134 = true := by decide +kernel
noncomputable def fi135 : FI := ⟨Tryz.f135, []⟩
theorem fi135_ok : fnB fi135 = true := by decide +kernel
noncomputable def fi136 : FI := ⟨Tryz.f136, []⟩
theorem fi136_ok : fnB fi136 = true := by decide +kernel
noncomputable def fi137 : FI := ⟨Tryz.f137, []⟩
theorem fi137_ok : fnB fi137 = true := by decide +kernel
noncomputable def fi138 : FI := ⟨Tryz.f138, [(3, ⟨[0, 1, 3, 7, 0, 0, 32, 96, 224, 496, 1008, 0, 0, 4096, 12288, 28672, 63488, 131071, 262143, 524287, 1048575, 2097151, 4194303], 0, (.h [0, 1, 2, 3, 4, 5, 6, 7, 8, 9, 10, 11, 12, 13, 14, 15, 16, 17] (.o 18 (.h [19, 20] (.o 21 (.h [22] .nil)))))⟩)]⟩
theorem fi138_ok : fnB fi138 = true := by decide +kernel
noncomputable def fi139 : FI := ⟨Tryz.f139, []⟩
theorem fi139_ok : fnB fi139 = true := by decide +kernel
noncomputable def fi140 : FI := ⟨Tryz.f140, []⟩
theorem fi140_ok : fnB fi140 = true := by decide +kernel
noncomputable def fi141 : FI := ⟨Tryz.f141, []⟩
theorem fi141_ok : fnB fi141 = true := by decide +kernel
noncomputable def fi142 : FI := ⟨Tryz.f142, []⟩
theorem fi142_ok : fnB fi142 = true := by decide +kernel
noncomputable def fi143 : FI := ⟨Tryz.f143, []⟩
theorem fi143_ok : fnB fi143 = true := by decide +kernel
noncomputable def fi144 : FI := ⟨Tryz.f144, [(7, ⟨[0, 0, 0, 1, 9, 31, 63], 0, (.h [0, 1, 3, 4] (.o 2 (.h [5] (.o 6 .nil))))⟩)]⟩
theorem fi144_ok : fnB fi144 = true := by decide +kernel
noncomputable def fi145 : FI := ⟨Tryz.f145, []⟩
theorem fi145_ok : fnB fi145 = true := by decide +kernel
noncomputable def fi146 : FI := ⟨Tryz.f146, []⟩
theorem fi146_ok : fnB fi146 = true := by decide +kernel
noncomputable def fi147 : FI := ⟨Tryz.f147, [(1, ⟨[0, 1, 0, 4, 12, 28, 63, 127, 255, 511, 255, 2047, 4095, 8191], 0, (.h [0, 1, 2, 3, 4, 5, 6, 7, 8, 9, 10, 11, 12, 13] .nil)⟩)]⟩
theorem fi147_ok : fnB fi147 = true := by decide +kernel
noncomputable def fi148 : FI := ⟨Tryz.f148, [(7, ⟨[0, 1, 3, 0, 8, 0, 7, 95, 255, 511], 0, (.h [0, 1, 2, 3, 4, 5, 6, 7] (.o 8 (.h [9] .nil)))⟩)]⟩
theorem fi148_ok : fnB fi148 = true := by decide +kernel
noncomputable def fi149 : FI := ⟨Tryz.f149, []⟩
theorem fi149_ok : fnB fi149 = true := by decide +kernel
noncomputable def fi150 : FI := ⟨Tryz.f150, []⟩
theorem fi150_ok : fnB fi150 = true := by decide +kernel
noncomputable def fi151 : FI := ⟨Tryz.f151, []⟩
theorem fi151_ok : fnB fi151 = true := by decide +kernel
noncomputable def fi152 : FI := ⟨Tryz.f152, [(12, ⟨[0, 1, 3, 7, 0, 0, 0, 64, 224, 511], 384, (.h [0, 1, 2, 3, 4, 5, 6] (.o 7 (.h [8] (.o 9 .nil))))⟩)]⟩
theorem fi152_ok : fnB fi152 = true := by decide +kernel
noncomputable def fi153 : FI := ⟨Tryz.f153, [(5, ⟨[0, 1, 3, 7, 0, 16, 63, 127, 255, 255, 0, 1535, 4095], 0, (.h [0, 1, 2, 3, 4, 5, 6, 7, 8, 9] (.o 10 (.o 11 (.h [12] .nil))))⟩), (11, ⟨[0, 1, 3, 7, 0, 0, 32, 127], 64, (.h [0, 1, 2, 3, 4, 5] (.o 6 (.o 7 .nil)))⟩)]⟩
theorem fi153_ok : fnB fi153 = true := by decide +kernel
noncomputable def fi154 : FI := ⟨Tryz.f154, []⟩
theorem fi154_ok : fnB fi154 = true := by decide +kernel
noncomputable def fi155 : FI := ⟨Tryz.f155, []⟩
theorem fi155_ok : fnB fi155 = true := by decide +kernel
noncomputable def fi156 : FI := ⟨Tryz.f156, []⟩
theorem fi156_ok : fnB fi156 = true := by decide +kernel
noncomputable def fi157 : FI := ⟨Tryz.f157, [(10, ⟨[0, 1, 3, 7, 15, 7, 39, 127, 255, 7, 1023, 2047, 4095], 0, (.h [0, 1, 2, 3, 4, 5, 6, 7, 8, 9] (.o 10 (.h [11, 12] .nil)))⟩)]⟩
theorem fi157_ok : fnB fi157 = true := by decide +kernel
noncomputable def fi158 : FI := ⟨Tryz.f158, []⟩
theorem fi158_ok : fnB fi158 = true := by decide +kernel
noncomputable def fi159 : FI := ⟨Tryz.f159, []⟩
theorem fi159_ok : fnB fi159 = true := by decide +kernel
noncomputable def fi160 : FI := ⟨Tryz.f160, [(7, ⟨[0, 1, 0, 4, 12, 31, 63, 127], 8, (.h [0, 1, 2] (.o 3 (.o 4 (.o 5 (.h [6] (.o 7 .nil))))))⟩)]⟩
theorem fi160_ok : fnB fi160 = true := by decide +kernel
noncomputable def fi161 : FI := ⟨Tryz.f161, [(7, ⟨[0, 1, 3, 7, 0, 0, 0, 64, 224, 511], 384, (.h [0, 1, 2, 3, 4, 5, 6] (.o 7 (.h [8] (.o 9 .nil))))⟩)]⟩
theorem fi161_ok : fnB fi161 = true := by decide +kernel
noncomputable def fi162 : FI := ⟨Tryz.f162, [(8, ⟨[0, 1, 3, 7, 0, 31], 0, (.h [0, 1, 2, 3, 4] (.o 5 .nil))⟩)]⟩
theorem fi162_ok : fnB fi162 = true := by decide +kernel
noncomputable def fi163 : FI := ⟨Tryz.f163, [(3, ⟨[0, 1, 0, 4, 12, 31, 63, 127, 255], 16, (.h [0, 1, 2, 3] (.o 4 (.h [5] (.o 6 (.h [7, 8] .nil)))))⟩)]⟩
theorem fi163_ok : fnB fi163 = true := by decide +kernel
noncomputable def fi164 : FI := ⟨Tryz.f164, [(2, ⟨[0, 1, 3, 7, 15, 31, 63, 127, 255, 511, 255, 1279, 3327, 8191, 16383, 32767, 65535, 131071, 65535, 327679, 1048575, 2097151], 990976, (.h [0, 1, 2, 3] (.o 4 (.h [5, 6, 7, 8, 9, 10, 11, 12, 13, 14, 15, 16, 17, 18] (.o 19 (.h [20, 21] .nil)))))⟩), (7, ⟨[0, 1, 3, 7, 0, 16, 63, 127, 255, 255, 0, 1535, 4095], 0, (.h [0, 1, 2, 3, 4, 5] (.w 6 10 (.h [7, 8, 9] (.o 10 (.o 11 (.h [12] .nil)))) (.o 6 (.h [7, 8, 9] (.o 11 (.h [12] .nil))))))⟩)]⟩
theorem fi164_ok : fnB fi164 = true := by decide +kernel
noncomputable def fi165 : FI := ⟨Tryz.f165, []⟩
theorem fi165_ok : fnB fi165 = true := by decide +kernel
noncomputable def fi166 : FI := ⟨Tryz.f166, [(2, ⟨[0, 1, 3, 7, 0, 16, 48, 112, 240, 511], 0, (.h [0, 1, 2, 3, 4, 5, 6, 7, 8] (.o 9 .nil))⟩)]⟩
theorem fi166_ok : fnB fi166 = true := by decide +kernel
noncomputable def fi167 : FI := ⟨Tryz.f167, [(0, ⟨[0, 1, 3, 7, 15, 15, 47, 111, 239, 15, 527, 1551, 15, 4111, 12303, 28687, 61455, 130575, 262127, 524287, 1048575, 2097151], 524272, (.h [0] (.o 1 (.h [2, 3, 4, 5, 6, 7, 8, 9, 12, 13, 14, 15, 16] (.o 10 (.h [11, 17] (.o 18 (.o 19 (.h [20, 21] .nil))))))))⟩)]⟩
theorem fi167_ok : fnB fi167 = true := by decide +kernel
noncomputable def fi168 : FI := ⟨Tryz.f168, []⟩
theorem fi168_ok : fnB fi168 = true := by decide +kernel
noncomputable def fi169 : FI := ⟨Tryz.f169, []⟩
theorem fi169_ok : fnB fi169 = true := by decide +kernel
noncomputable def fi170 : FI := ⟨Tryz.f170, []⟩
theorem fi170_ok : fnB fi170 = true := by decide +kernel
noncomputable def fi171 : FI := ⟨Tryz.f171, []⟩
theorem fi171_ok : fnB fi171 = true := by decide +kernel
noncomputable def fi172 : FI := ⟨Tryz.f172, [(5, ⟨[0, 1, 3, 7, 0, 16, 0, 64, 0, 0, 512, 1792, 4095, 0, 16383], 3072, (.h [0, 1, 2, 3, 4, 5, 6, 7, 8, 9] (.w 10 13 (.w 11 13 (.h [12] (.o 13 (.o 14 .nil))) (.o 11 (.h [12] (.o 14 .nil)))) (.o 10 (.o 11 (.h [12] (.o 14 .nil))))))⟩), (6, ⟨[0, 1, 3, 7, 0, 16, 0, 64, 255, 511, 1023, 1023, 0, 6143, 16383], 0, (.h [0, 1, 2, 3, 4, 5, 6, 7] (.w 8 12 (.h [9, 10, 11] (.o 12 (.h [13] (.o 14 .nil)))) (.o 8 (.h [9, 10, 11, 13] (.o 14 .nil)))))⟩), (21, ⟨[0, 1, 3, 7, 0, 16, 0, 64, 0, 256, 1023], 0, (.h [0, 1, 2, 3, 4, 5, 6, 7, 8, 9] (.o 10 .nil))⟩)]⟩
theorem fi172_ok : fnB fi172 = true := by decide +kernel
noncomputable def fi173 : FI := ⟨Tryz.f173, []⟩
theorem fi173_ok : fnB fi173 = true := by decide +kernel
noncomputable def fi174 : FI := ⟨Tryz.f174, []⟩
theorem fi174_ok : fnB fi174 = true := by decide +kernel
noncomputable def fi175 : FI := ⟨Tryz.f175, []⟩
theorem fi175_ok : fnB fi175 = true := by decide +kernel
noncomputable def fi176 : FI := ⟨Tryz.f176, [(4, ⟨[0, 1, 3, 7, 15, 0, 63, 127], 0, (.h [0, 1, 2, 3, 4, 5] (.o 6 (.h [7] .nil)))⟩), (8, ⟨[0, 1, 3, 7, 15, 0, 32, 127, 255, 511, 511, 0, 3071, 8191], 0, (.h [0, 1, 2, 3, 4, 5, 6] (.w 7 11 (.h [8, 9, 10] (.o 11 (.o 12 (.h [13] .nil)))) (.o 7 (.h [8, 9, 10] (.o 12 (.h [13] .nil))))))⟩)]⟩
theorem fi176_ok : fnB fi176 = true := by decide +kernel
noncomputable def fi177 : FI := ⟨Tryz.f177, []⟩
theorem fi177_ok : fnB fi177 = true := by decide +kernel
noncomputable def fi178 : FI := ⟨Tryz.f178, []⟩
theorem fi178_ok : fnB fi178 = true := by decide +kernel
noncomputable def fi179 : FI := ⟨Tryz.f179, [(3, ⟨[0, 1, 3, 7, 0, 16, 48, 112, 240, 496, 1023, 2047], 0, (.h [0, 1, 2, 3, 4, 5, 6, 7, 8, 9, 10, 11] .nil)⟩)]⟩
theorem fi179_ok : fnB fi179 = true := by decide +kernel
noncomputable def fi180 : FI := ⟨Tryz.f180, []⟩
theorem fi180_ok : fnB fi180 = true := by decide +kernel
noncomputable def fi181 : FI := ⟨Tryz.f181, []⟩
theorem fi181_ok : fnB fi181 = true := by decide +kernel
noncomputable def fi182 : FI := ⟨Tryz.f182, [(6, ⟨[0, 0, 3, 7, 0, 0, 48, 112, 255], 0, (.h [0, 1, 2, 3, 4, 5, 6, 7, 8] .nil)⟩)]⟩
theorem fi182_ok : fnB fi182 = true := by decide +kernel
noncomputable def fi183 : FI := ⟨Tryz.f183, []⟩
theorem fi183_ok : fnB fi183 = true := by decide +kernel
noncomputable def fi184 : FI := ⟨Tryz.f184, []⟩
theorem fi184_ok : fnB fi184 = true := by decide +kernel
noncomputable def fi185 : FI := ⟨Tryz.f185, []⟩
theorem fi185_ok : fnB fi185 = true := by decide +kernel
noncomputable def fi186 : FI := ⟨Tryz.f186, []⟩
theorem fi186_ok : fnB fi186 = true := by decide +kernel
noncomputable def fi187 : FI := ⟨Tryz.f187, [(1, ⟨[0, 0, 2, 6, 14, 0, 32, 0, 0, 480, 992, 2046, 4095, 8191], 576, (.h [0, 1, 2, 3, 4, 5, 7, 8] (.o 6 (.h [9] (.o 10 (.o 11 (.o 12 (.h [13] .nil)))))))⟩)]⟩
theorem fi187_ok : fnB fi187 = true := by decide +kernel
noncomputable def fi188 : FI := ⟨Tryz.f188, [(1, ⟨[0, 1, 3, 7, 0, 16, 48, 112, 0, 256, 768, 1792, 3840, 0, 8192, 24576, 57344, 122880, 262143, 524287], 131072, (.h [0, 1, 2, 3, 4, 5, 6, 7, 8, 9, 10, 11, 12, 13, 14, 15, 16] (.o 17 (.o 18 (.h [19] .nil))))⟩)]⟩
theorem fi188_ok : fnB fi188 = true := by decide +kernel
noncomputable def fi189 : FI := ⟨Tryz.f189, []⟩
theorem fi189_ok : fnB fi189 = true := by decide +kernel
noncomputable def fi190 : FI := ⟨Tryz.f190, []⟩
theorem fi190_ok : fnB fi190 = true := by decide +kernel
noncomputable def fi191 : FI := ⟨Tryz.f191, []⟩
theorem fi191_ok : fnB fi191 = true := by decide +kernel
noncomputable def fi192 : FI := ⟨Tryz.f192, []⟩
theorem fi192_ok : fnB fi192 = true := by decide +kernel
noncomputable def fi193 : FI := ⟨Tryz.f193, []⟩
theorem fi193_ok : fnB fi193 = true := by decide +kernel
noncomputable def fi194 : FI := ⟨Tryz.f194, []⟩
theorem fi194_ok : fnB fi194 = true := by decide +kernel
noncomputable def fi195 : FI := ⟨Tryz.f195, []⟩
theorem fi195_ok : fnB fi195 = true := by decide +kernel
noncomputable def fi196 : FI := ⟨Tryz.f196, [(1, ⟨[0, 1, 3, 7, 15, 31, 63, 127, 255, 511, 63, 1087, 3135, 7231, 15423, 32767, 65535, 131071], 0, (.h [0, 1, 2, 3, 4, 5, 6, 7, 8, 9, 10, 11, 12, 13, 14, 15, 16, 17] .nil)⟩)]⟩
theorem fi196_ok : fnB fi196 = true := by decide +kernel
noncomputable def fi197 : FI := ⟨Tryz.f197, [(4, ⟨[0, 0, 2, 6, 14, 30, 0, 126, 255, 511], 0, (.h [0, 1, 2, 3, 4, 5, 6] (.o 7 (.o 8 (.h [9] .nil))))⟩)]⟩
theorem fi197_ok : fnB fi197 = true := by decide +kernel
noncomputable def fi198 : FI := ⟨Tryz.f198, [(2, ⟨[0, 1, 0, 7, 15, 31, 63, 31, 255, 511, 1023, 2047, 1023, 5119, 13311, 29695, 62463, 131071, 262143, 524287, 1048575], 65536, (.h [0, 1, 2, 3, 4, 5, 6, 7, 8, 9, 10, 11, 12, 13, 14, 15] (.o 16 (.h [17, 18, 19, 20] .nil)))⟩)]⟩
theorem fi198_ok : fnB fi198 = true := by decide +kernel
noncomputable def fi199 : FI := ⟨Tryz.f199, [(6, ⟨[0, 1, 3, 7, 0, 16, 0, 64, 255], 0, (.h [0, 1, 2, 3, 4, 5, 6, 7] (.o 8 .nil))⟩)]⟩
theorem fi199_ok : fnB fi199 = true := by decide +kernel
noncomputable def fi200 : FI := ⟨Tryz.f200, [(5, ⟨[0, 0, 2, 6, 14, 0, 62, 127, 255], 0, (.h [0, 1, 2, 3, 4, 5] (.o 6 (.o 7 (.h [8] .nil))))⟩)]⟩
theorem fi200_ok : fnB fi200 = true := by decide +kernel
noncomputable def fi201 : FI := ⟨Tryz.f201, [(1, ⟨[0, 1, 3, 7, 0, 16, 63, 127, 255, 255, 0, 1535, 4095], 0, (.h [0, 1, 2, 3, 4, 5] (.w 6 10 (.h [7, 8, 9] (.o 10 (.o 11 (.h [12] .nil)))) (.o 6 (.h [7, 8, 9] (.o 11 (.h [12] .nil))))))⟩), (2, ⟨[0, 1, 3, 7, 15, 31, 63, 127, 255, 511, 1023, 2047, 1023, 5119, 13311, 29695, 62463, 131071, 262143, 524287, 1048575, 2097151, 1048575, 5242879, 13631487, 30408703, 63963135, 134217727, 268435455], 133234688, (.h [0, 1, 2, 3, 4, 5, 6, 7, 8, 9, 10, 11, 12, 13, 14, 15] (.o 16 (.h [17, 18, 19, 20, 21, 22, 23, 24, 25] (.o 26 (.h [27, 28] .nil)))))⟩), (3, ⟨[0, 1, 3, 7, 0, 16, 0, 64, 255], 0, (.h [0, 1, 2, 3, 4, 5, 6, 7] (.o 8 .nil))⟩), (5, ⟨[0, 1, 3, 7, 0, 16, 0, 64, 255], 0, (.h [0, 1, 2, 3, 4, 5, 6, 7] (.o 8 .nil))⟩), (6, ⟨[0, 1, 3, 7, 0, 16, 63, 127, 255, 255, 0, 1535, 4095], 0, (.h [0, 1, 2, 3, 4, 5] (.w 6 10 (.h [7, 8, 9] (.o 10 (.o 11 (.h [12] .nil)))) (.o 6 (.h [7, 8, 9] (.o 11 (.h [12] .nil))))))⟩), (7, ⟨[0, 1, 3, 7, 15, 31, 15, 79, 207, 463, 975, 2047, 4095], 2032, (.h [0] (.o 1 (.h [2, 3, 4, 5, 6, 7, 8, 9] (.o 10 (.h [11, 12] .nil)))))⟩), (9, ⟨[0, 1, 3, 7, 15, 31, 63, 127, 255, 511, 63, 1087, 4095, 8191, 16383, 32767, 65535, 32767, 163839, 425983, 950271, 1998847, 4194303, 8388607], 2097152, (.h [0, 1, 2, 3, 4, 5, 6, 7, 8, 9, 10, 11, 12, 13, 14, 15, 16, 17, 18, 19, 20] (.o 21 (.h [22, 23] .nil)))⟩), (11, ⟨[0, 1, 3, 7, 0, 16, 0, 64, 255], 0, (.h [0, 1, 2, 3, 4, 5, 6, 7] (.o 8 .nil))⟩)]⟩
theorem fi201_ok : fnB fi201 = true := by decide +kernel
noncomputable def fi202 : FI := ⟨Tryz.f202, [(1, ⟨[0, 1, 3, 7, 0, 16, 63, 0, 255], 0, (.h [0, 1, 2, 3, 4, 5, 6] (.o 7 (.o 8 .nil)))⟩), (3, ⟨[0, 1, 3, 0, 8, 24, 56, 127], 0, (.h [0, 1, 2, 3, 4, 5, 6, 7] .nil)⟩), (4, ⟨[0, 0, 2, 6, 14, 0, 32, 126, 255, 511], 0, (.h [0, 1, 2, 3, 4, 5, 6] (.o 7 (.o 8 (.h [9] .nil))))⟩), (5, ⟨[0, 0, 0, 0, 8, 24, 0, 64, 192, 57, 569, 1593, 4091, 8187, 16379, 32767, 65535, 131071], 2048, (.h [0, 1, 2, 3, 4, 5, 6, 7, 8, 9, 10] (.o 11 (.h [12, 13] (.o 14 (.h [15, 16] (.o 17 .nil))))))⟩), (8, ⟨[0, 1, 0, 4, 12, 28, 63], 0, (.h [0, 1, 2, 3, 4, 5, 6] .nil)⟩), (9, ⟨[0, 1, 3, 7, 0, 16, 63, 127, 255, 255, 511, 2047], 0, (.h [0, 1, 2, 3, 4, 5] (.o 6 (.h [7, 8, 9, 10, 11] .nil)))⟩), (14, ⟨[0, 0, 2, 6, 14, 0, 32, 0, 128, 480, 1022, 2047, 4095, 8191], 0, (.h [0, 1, 2, 3, 4, 5, 6, 7, 8, 9, 10, 11, 12] (.o 13 .nil))⟩)]⟩
theorem fi202_ok : fnB fi202 = true := by decide +kernel
noncomputable def fi203 : FI := ⟨Tryz.f203, []⟩
theorem fi203_ok : fnB fi203 = true := by decide +kernel
noncomputable def fi204 : FI := ⟨Tryz.f204, []⟩
theorem fi204_ok : fnB fi204 = true := by decide +kernel
noncomputable def fi205 : FI := ⟨Tryz.f205, []⟩
theorem fi205_ok : fnB fi205 = true := by decide +kernel
noncomputable def fi206 : FI := ⟨Tryz.f206, []⟩
theorem fi206_ok : fnB fi206 = true := by decide +kernel
noncomputable def fi207 : FI := ⟨Tryz.f207, []⟩
theorem fi207_ok : fnB fi207 = true := by decide +kernel
noncomputable def fi208 : FI := ⟨Tryz.f208, [(9, ⟨[0, 0, 2, 6, 14, 0, 0, 64, 0, 448, 960, 2016, 4064, 8160, 16382, 32767, 65535, 131071], 0, (.h [0, 1, 2, 3, 4, 5, 6, 7, 8, 9, 10, 11, 12] (.o 13 (.o 14 (.h [15, 16] (.o 17 .nil)))))⟩)]⟩
theorem fi208_ok : fnB fi208 = true := by decide +kernel
noncomputable def fi209 : FI := ⟨Tryz.f209, []⟩
theorem fi209_ok : fnB fi209 = true := by decide +kernel
noncomputable def fi210 : FI := ⟨Tryz.f210, []⟩
theorem fi210_ok : fnB fi210 = true := by decide +kernel
noncomputable def fi211 : FI := ⟨Tryz.f211, [(1, ⟨[0, 0, 2, 6, 14, 0, 0, 64, 192, 448, 992, 2046, 4095, 8191, 16383], 0, (.h [0, 1, 2, 3, 4, 5, 6, 7, 8, 9, 10, 11, 12, 13] (.o 14 .nil))⟩)]⟩
theorem fi211_ok : fnB fi211 = true := by decide +kernel
noncomputable def fi212 : FI := ⟨Tryz.f212, []⟩
theorem fi212_ok : fnB fi212 = true := by decide +kernel
noncomputable def fi213 : FI := ⟨Tryz.f213, []⟩
theorem fi213_ok : fnB fi213 = true := by decide +kernel
noncomputable def fi214 : FI := ⟨Tryz.f214, []⟩
theorem fi214_ok : fnB fi214 = true := by decide +kernel
noncomputable def fi215 : FI := ⟨Tryz.f215, []⟩
theorem fi215_ok : fnB fi215 = true := by decide +kernel
noncomputable def fi217 : FI := ⟨Tryz.f217, []⟩
theorem fi217_ok : fnB fi217 = true := by decide +kernel
noncomputable def fi218 : FI := ⟨Tryz.f218, [(3, ⟨[0, 1, 3, 7, 15, 0, 32, 96, 224, 0, 512, 1536, 3584, 7711, 16383, 32767], 8208, (.h [0, 1, 2, 3, 5, 6, 7, 8, 9, 10, 11, 12] (.o 4 (.o 13 (.h [14] (.o 15 .nil)))))⟩)]⟩
theorem fi218_ok : fnB fi218 = true := by decide +kernel
noncomputable def fi219 : FI := ⟨Tryz.f219, []⟩
theorem fi219_ok : fnB fi219 = true := by decide +kernel
noncomputable def fi220 : FI := ⟨Tryz.f220, []⟩
theorem fi220_ok : fnB fi220 = true := by decide +kernel
noncomputable def fi221 : FI := ⟨Tryz.f221, []⟩
theorem fi221_ok : fnB fi221 = true := by decide +kernel
noncomputable def fi222 : FI := ⟨Tryz.f222, [(1, ⟨[0, 1, 3, 7, 0, 0, 63], 0, (.h [0, 1, 2, 3, 4, 5] (.o 6 .nil))⟩)]⟩
theorem fi222_ok : fnB fi222 = true := by decide +kernel
end Go.Proofs.YtkbpafbbogjifaaGreat
