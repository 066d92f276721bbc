/- A runner's tables: functions. -/
import Derived.Test.YtkbpafbbogjifaaGreatBc
import Derived.Test.YtkbpafbbogjifaaGreatProg
namespace Go.Proofs.YtkbpafbbogjifaaGreat
open Go Go.Proofs.Rn
noncomputable def fi223 : FI := ⟨Tryz.f223, [(1, ⟨[0, 1, 3, 7, 15, 31, 63, 127, 255, 511, 1023, 2047, 4095, 8191, 16383, 32767, 16383, 131071, 262143, 524287], 32768, (.h [0, 1, 2, 3, 4, 5, 6, 7, 8, 9, 10, 11, 12, 13, 14, 16] (.o 15 (.o 17 (.h [18, 19] .nil))))⟩)]⟩
theorem fi223_ok : fnB fi223 = true := by decide +kernel
noncomputable def fi224 : FI := ⟨Tryz.f224, []⟩
theorem fi224_ok : fnB fi224 = true := by decide +kernel
noncomputable def fi225 : FI := ⟨Tryz.f225, [(1, ⟨[0, 1, 3, 0, 8, 31, 63, 0, 128, 511, 1023, 2047], 100, (.h [0, 1, 3, 4, 7, 8] (.o 2 (.o 5 (.o 6 (.o 9 (.o 10 (.h [11] .nil)))))))⟩)]⟩
theorem fi225_ok : fnB fi225 = true := by decide +kernel
noncomputable def fi226 : FI := ⟨Tryz.f226, []⟩
theorem fi226_ok : fnB fi226 = true := by decide +kernel
noncomputable def fi227 : FI := ⟨Tryz.f227, []⟩
theorem fi227_ok : fnB fi227 = true := by decide +kernel
noncomputable def fi228 : FI := ⟨Tryz.f228, []⟩
theorem fi228_ok : fnB fi228 = true := by decide +kernel
noncomputable def fi229 : FI := ⟨Tryz.f229, []⟩
theorem fi229_ok : fnB fi229 = true := by decide +kernel
noncomputable def fi230 : FI := ⟨Tryz.f230, [(11, ⟨[0, 0, 2, 7, 15], 4, (.h [0, 1] (.o 2 (.o 3 (.h [4] .nil))))⟩)]⟩
theorem fi230_ok : fnB fi230 = true := by decide +kernel
noncomputable def fi231 : FI := ⟨Tryz.f231, []⟩
theorem fi231_ok : fnB fi231 = true := by decide +kernel
noncomputable def fi232 : FI := ⟨Tryz.f232, []⟩
theorem fi232_ok : fnB fi232 = true := by decide +kernel
noncomputable def fi233 : FI := ⟨Tryz.f233, [(8, ⟨[0, 1, 0, 4, 12, 28, 63, 127, 255], 24, (.h [0, 1, 2] (.o 3 (.h [4] (.o 5 (.o 6 (.h [7] (.o 8 .nil)))))))⟩)]⟩
theorem fi233_ok : fnB fi233 = true := by decide +kernel
noncomputable def fi234 : FI := ⟨Tryz.f234, []⟩
theorem fi234_ok : fnB fi234 = true := by decide +kernel
noncomputable def fi235 : FI := ⟨Tryz.f235, []⟩
theorem fi235_ok : fnB fi235 = true := by decide +kernel
noncomputable def fi236 : FI := ⟨Tryz.f236, []⟩
theorem fi236_ok : fnB fi236 = true := by decide +kernel
noncomputable def fi237 : FI := ⟨Tryz.f237, [(4, ⟨[0, 1, 3, 7, 0, 16, 48, 112, 255, 511, 1023, 1023, 2047, 8191], 128, (.h [0, 1, 2, 3, 4, 5, 6] (.o 7 (.o 8 (.h [9, 10, 11, 12, 13] .nil))))⟩), (6, ⟨[0, 1, 3, 7, 0, 16, 48, 112, 0, 256, 768, 1792, 4095, 8191], 128, (.h [0, 1, 2, 3, 4, 5, 6, 8, 9, 10, 11] (.o 7 (.o 12 (.h [13] .nil))))⟩), (9, ⟨[0, 1, 3, 7, 0, 16, 48, 112, 255, 511], 128, (.h [0, 1, 2, 3, 4, 5, 6] (.o 7 (.o 8 (.h [9] .nil))))⟩)]⟩
theorem fi237_ok : fnB fi237 = true := by decide +kernel
noncomputable def fi238 : FI := ⟨Tryz.f238, []⟩
theorem fi238_ok : fnB fi238 = true := by decide +kernel
noncomputable def fi239 : FI := ⟨Tryz.f239, []⟩
theorem fi239_ok : fnB fi239 = true := by decide +kernel
noncomputable def fi240 : FI := ⟨Tryz.f240, [(2, ⟨[0, 1, 3, 7, 0, 16, 48, 112, 255, 511], 128, (.h [0, 1, 2, 3, 4, 5, 6] (.o 7 (.o 8 (.h [9] .nil))))⟩), (5, ⟨[0, 0, 2, 6, 14, 30, 0, 64, 192, 448, 1022, 2047], 0, (.h [0, 1, 2, 3, 4, 5, 6, 7, 8, 9, 10] (.o 11 .nil))⟩), (6, ⟨[0, 0, 2, 6, 14, 0, 32, 96, 224, 480, 992, 2046, 4094, 8191, 16383, 32767], 0, (.h [0, 1, 2, 3, 4, 5, 6, 7, 8, 9, 10, 11] (.o 12 (.h [13, 14] (.o 15 .nil))))⟩)]⟩
theorem fi240_ok : fnB fi240 = true := by decide +kernel
noncomputable def fi241 : FI := ⟨Tryz.f241, []⟩
theorem fi241_ok : fnB fi241 = true := by decide +kernel
noncomputable def fi242 : FI := ⟨Tryz.f242, []⟩
theorem fi242_ok : fnB fi242 = true := by decide +kernel
noncomputable def fi243 : FI := ⟨Tryz.f243, []⟩
theorem fi243_ok : fnB fi243 = true := by decide +kernel
noncomputable def fi244 : FI := ⟨Tryz.f244, []⟩
theorem fi244_ok : fnB fi244 = true := by decide +kernel
noncomputable def fi245 : FI := ⟨Tryz.f245, []⟩
theorem fi245_ok : fnB fi245 = true := by decide +kernel
noncomputable def fi246 : FI := ⟨Tryz.f246, []⟩
theorem fi246_ok : fnB fi246 = true := by decide +kernel
noncomputable def fi247 : FI := ⟨Tryz.f247, []⟩
theorem fi247_ok : fnB fi247 = true := by decide +kernel
noncomputable def fi248 : FI := ⟨Tryz.f248, [(7, ⟨[0, 1, 3, 7, 15, 0, 32, 96, 224, 480, 1023, 0, 2048, 6144, 14336, 32767, 65535], 0, (.h [0, 1, 2, 3, 4, 5, 6, 7, 8, 9, 10, 11, 12, 13, 14, 15, 16] .nil)⟩)]⟩
theorem fi248_ok : fnB fi248 = true := by decide +kernel
noncomputable def fi249 : FI := ⟨Tryz.f249, [(4, ⟨[0, 0, 3, 7, 15, 31, 0, 0, 128, 448, 960, 1984, 4032, 8191, 0, 0, 32768, 114688, 245760, 507904, 1048575, 2097151], 0, (.h [0, 1, 2, 3, 4, 5, 6, 7, 8, 9, 10, 11, 12, 13, 14, 15, 16, 17, 18, 19, 20, 21] .nil)⟩)]⟩
theorem fi249_ok : fnB fi249 = true := by decide +kernel
noncomputable def fi250 : FI := ⟨Tryz.f250, []⟩
theorem fi250_ok : fnB fi250 = true := by decide +kernel
noncomputable def fi251 : FI := ⟨Tryz.f251, [(1, ⟨[0, 1, 3, 0, 8, 31, 31, 127, 255, 511], 4, (.h [0, 1, 3, 4] (.o 2 (.h [6] (.o 5 (.o 7 (.h [8] (.o 9 .nil)))))))⟩)]⟩
theorem fi251_ok : fnB fi251 = true := by decide +kernel
noncomputable def fi252 : FI := ⟨Tryz.f252, []⟩
theorem fi252_ok : fnB fi252 = true := by decide +kernel
noncomputable def fi253 : FI := ⟨Tryz.f253, []⟩
theorem fi253_ok : fnB fi253 = true := by decide +kernel
noncomputable def fi254 : FI := ⟨Tryz.f254, []⟩
theorem fi254_ok : fnB fi254 = true := by decide +kernel
noncomputable def fi255 : FI := ⟨Tryz.f255, []⟩
theorem fi255_ok : fnB fi255 = true := by decide +kernel
noncomputable def fi256 : FI := ⟨Tryz.f256, []⟩
theorem fi256_ok : fnB fi256 = true := by decide +kernel
noncomputable def fi257 : FI := ⟨Tryz.f257, []⟩
theorem fi257_ok : fnB fi257 = true := by decide +kernel
noncomputable def fi258 : FI := ⟨Tryz.f258, []⟩
theorem fi258_ok : fnB fi258 = true := by decide +kernel
noncomputable def fi259 : FI := ⟨Tryz.f259, []⟩
theorem fi259_ok : fnB fi259 = true := by decide +kernel
noncomputable def fi260 : FI := ⟨Tryz.f260, []⟩
theorem fi260_ok : fnB fi260 = true := by decide +kernel
noncomputable def fi261 : FI := ⟨Tryz.f261, []⟩
theorem fi261_ok : fnB fi261 = true := by decide +kernel
noncomputable def fi262 : FI := ⟨Tryz.f262, []⟩
theorem fi262_ok : fnB fi262 = true := by decide +kernel
noncomputable def fi263 : FI := ⟨Tryz.f263, []⟩
theorem fi263_ok : fnB fi263 = true := by decide +kernel
noncomputable def fi264 : FI := ⟨Tryz.f264, []⟩
theorem fi264_ok : fnB fi264 = true := by decide +kernel
noncomputable def fi265 : FI := ⟨Tryz.f265, []⟩
theorem fi265_ok : fnB fi265 = true := by decide +kernel
noncomputable def fi266 : FI := ⟨Tryz.f266, []⟩
theorem fi266_ok : fnB fi266 = true := by decide +kernel
noncomputable def fi267 : FI := ⟨Tryz.f267, []⟩
theorem fi267_ok : fnB fi267 = true := by decide +kernel
noncomputable def fi268 : FI := ⟨Tryz.f268, [(14, ⟨[0, 1, 3, 7, 0, 16, 48, 112, 0, 256, 0, 1024, 3072, 7168, 16128, 32752, 0, 131056, 262128, 524287, 1048575, 2097151, 2097151, 4194303, 16777215], 425984, (.h [0, 1, 2, 3, 4, 5, 6, 7, 8, 9, 10, 11, 12, 13, 14, 16] (.o 15 (.h [17, 18] (.o 19 (.h [20, 21, 22, 23, 24] .nil)))))⟩)]⟩
theorem fi268_ok : fnB fi268 = true := by decide +kernel
noncomputable def fi269 : FI := ⟨Tryz.f269, []⟩
theorem fi269_ok : fnB fi269 = true := by decide +kernel
noncomputable def fi270 : FI := ⟨Tryz.f270, []⟩
theorem fi270_ok : fnB fi270 = true := by decide +kernel
noncomputable def fi271 : FI := ⟨Tryz.f271, []⟩
theorem fi271_ok : fnB fi271 = true := by decide +kernel
noncomputable def fi272 : FI := ⟨Tryz.f272, []⟩
theorem fi272_ok : fnB fi272 = true := by decide +kernel
noncomputable def fi273 : FI := ⟨Tryz.f273, [(6, ⟨[0, 1, 3, 7, 15, 0, 32, 96, 255, 0, 1023, 2047], 192, (.h [0, 1, 2, 3, 4, 5, 9] (.o 6 (.h [7, 8, 10, 11] .nil)))⟩)]⟩
theorem fi273_ok : fnB fi273 = true := by decide +kernel
noncomputable def fi274 : FI := ⟨Tryz.f274, [(1, ⟨[0, 0, 0, 4, 0, 16, 48, 112, 252, 508, 1020, 2045, 4093, 8189, 16383, 32767, 65535], 8, (.h [0, 1, 2, 4, 5, 6, 7] (.o 3 (.o 8 (.o 9 (.o 10 (.h [11, 12] (.o 13 (.h [14, 15] (.o 16 .nil)))))))))⟩)]⟩
theorem fi274_ok : fnB fi274 = true := by decide +kernel
noncomputable def fi275 : FI := ⟨Tryz.f275, []⟩
theorem fi275_ok : fnB fi275 = true := by decide +kernel
noncomputable def fi276 : FI := ⟨Tryz.f276, []⟩
theorem fi276_ok : fnB fi276 = true := by decide +kernel
noncomputable def fi277 : FI := ⟨Tryz.f277, []⟩
theorem fi277_ok : fnB fi277 = true := by decide +kernel
noncomputable def fi278 : FI := ⟨Tryz.f278, []⟩
theorem fi278_ok : fnB fi278 = true := by decide +kernel
noncomputable def fi279 : FI := ⟨Tryz.f279, [(13, ⟨[0, 1, 3, 7, 0, 16, 48, 0, 128, 511, 1023], 0, (.h [0, 1, 2, 3, 4, 5, 6, 7, 8] (.o 9 (.h [10] .nil)))⟩), (14, ⟨[0, 0, 2, 7, 0, 15, 63], 44, (.h [0, 1, 4] (.o 2 (.o 3 (.o 5 (.o 6 .nil)))))⟩), (17, ⟨[0, 1, 3, 7, 0, 16, 48, 0, 128, 511, 1023], 0, (.h [0, 1, 2, 3, 4, 5, 6, 7, 8] (.o 9 (.h [10] .nil)))⟩), (18, ⟨[0, 0, 2, 7, 0, 15, 63], 44, (.h [0, 1, 4] (.o 2 (.o 3 (.o 5 (.o 6 .nil)))))⟩), (19, ⟨[0, 0, 2, 7, 0, 31, 63, 0, 127, 511], 360, (.h [0, 1, 2, 4, 7] (.o 3 (.o 5 (.o 6 (.o 8 (.o 9 .nil))))))⟩), (20, ⟨[0, 0, 3, 0, 7, 31], 20, (.h [0, 1, 3] (.o 2 (.o 4 (.o 5 .nil))))⟩), (21, ⟨[0, 0, 2, 7, 0, 15, 63], 40, (.h [0, 1, 2, 4] (.o 3 (.o 5 (.o 6 .nil))))⟩), (22, ⟨[0, 1, 3, 7, 0, 16, 0, 64, 255, 511, 1023, 1023, 2047, 8191], 128, (.h [0, 1, 2, 3, 4, 5, 6] (.o 7 (.o 8 (.h [9, 10, 11] (.o 12 (.h [13] .nil))))))⟩), (23, ⟨[0, 0, 0, 7, 0, 15, 63], 40, (.h [0, 1, 2, 4] (.o 3 (.o 5 (.o 6 .nil))))⟩), (24, ⟨[0, 1, 3, 7, 0, 16, 63, 127, 255, 255, 0, 1535, 4095], 0, (.h [0, 1, 2, 3, 4, 5] (.w 6 10 (.h [7, 8, 9] (.o 10 (.o 11 (.h [12] .nil)))) (.o 6 (.h [7, 8, 9] (.o 11 (.h [12] .nil))))))⟩), (25, ⟨[0, 0, 0, 7, 0, 15, 63], 40, (.h [0, 1, 2, 4] (.o 3 (.o 5 (.o 6 .nil))))⟩), (26, ⟨[0, 0, 3, 0, 7, 31], 20, (.h [0, 1, 3] (.o 2 (.o 4 (.o 5 .nil))))⟩)]⟩
theorem fi279_ok : fnB fi279 = true := by decide +kernel
noncomputable def fi280 : FI := ⟨Tryz.f280, []⟩
theorem fi280_ok : fnB fi280 = true := by decide +kernel
noncomputable def fi281 : FI := ⟨Tryz.f281, [(6, ⟨[0, 1, 0, 4, 12, 28, 60, 127, 255], 0, (.h [0, 1, 2, 3, 4, 5, 6, 7, 8] .nil)⟩), (16, ⟨[0, 0, 2, 7, 15, 31], 4, (.h [0, 1] (.o 2 (.h [3, 4] (.o 5 .nil))))⟩)]⟩
theorem fi281_ok : fnB fi281 = true := by decide +kernel
noncomputable def fi282 : FI := ⟨Tryz.f282, []⟩
theorem fi282_ok : fnB fi282 = true := by decide +kernel
noncomputable def fi283 : FI := ⟨Tryz.f283, [(7, ⟨[0, 1, 3, 7, 0, 16, 63, 127], 32, (.h [0, 1, 2, 3, 4] (.o 5 (.o 6 (.h [7] .nil))))⟩), (10, ⟨[0, 0, 0, 4, 12, 28, 60, 124, 0, 256, 768, 1792, 0, 4096, 16128, 32764, 65533, 131069, 262141, 524287, 1048575, 2097151], 128, (.h [0, 1, 2, 3, 4, 5, 6, 8, 9, 10, 11, 12, 13, 14] (.o 7 (.o 15 (.h [16, 17] (.o 18 (.h [19, 20] (.o 21 .nil)))))))⟩), (11, ⟨[0, 0, 0, 4, 12, 28, 0, 64, 192, 508, 0, 1024, 3072, 7168, 0, 16384, 64512, 16381, 147453, 409597, 1048575, 2097151, 4194303], 524288, (.h [0, 1, 2, 3, 4, 5, 6, 7, 8, 9, 10, 11, 12, 13, 14, 15, 16, 17, 18] (.o 19 (.h [20, 21] (.o 22 .nil))))⟩)]⟩
theorem fi283_ok : fnB fi283 = true := by decide +kernel
noncomputable def fi284 : FI := ⟨Tryz.f284, [(3, ⟨[0, 1, 3, 7, 0, 16, 48, 112, 240, 0, 1008, 0, 2048, 6144, 14336, 32752, 0, 65536, 196608, 458752, 1048560, 0, 2097152, 6291456, 14680064, 33554416, 67108863, 134217727], 34637056, (.h [0, 1, 2, 3, 4, 5, 6, 7, 9, 11, 12, 13, 14, 16, 17, 18, 19, 21, 22, 23, 24] (.o 8 (.o 10 (.o 15 (.o 20 (.o 25 (.h [26] (.o 27 .nil))))))))⟩)]⟩
theorem fi284_ok : fnB fi284 = true := by decide +kernel
noncomputable def fi285 : FI := ⟨Tryz.f285, []⟩
theorem fi285_ok : fnB fi285 = true := by decide +kernel
noncomputable def fi286 : FI := ⟨Tryz.f286, []⟩
theorem fi286_ok : fnB fi286 = true := by decide +kernel
noncomputable def fi287 : FI := ⟨Tryz.f287, []⟩
theorem fi287_ok : fnB fi287 = true := by decide +kernel
noncomputable def fi288 : FI := ⟨Tryz.f288, []⟩
theorem fi288_ok : fnB fi288 = true := by decide +kernel
noncomputable def fi289 : FI := ⟨Tryz.f289, []⟩
theorem fi289_ok : fnB fi289 = true := by decide +kernel
noncomputable def fi290 : FI := ⟨Tryz.f290, []⟩
theorem fi290_ok : fnB fi290 = true := by decide +kernel
noncomputable def fi291 : FI := ⟨Tryz.f291, []⟩
theorem fi291_ok : fnB fi291 = true := by decide +kernel
noncomputable def fi292 : FI := ⟨Tryz.f292, []⟩
theorem fi292_ok : fnB fi292 = true := by decide +kernel
noncomputable def fi293 : FI := ⟨Tryz.f293, []⟩
theorem fi293_ok : fnB fi293 = true := by decide +kernel
noncomputable def fi294 : FI := ⟨Tryz.f294, []⟩
theorem fi294_ok : fnB fi294 = true := by decide +kernel
noncomputable def fi295 : FI := ⟨Tryz.f295, []⟩
theorem fi295_ok : fnB fi295 = true := by decide +kernel
noncomputable def fi296 : FI := ⟨Tryz.f296, []⟩
theorem fi296_ok : fnB fi296 = true := by decide +kernel
noncomputable def fi297 : FI := ⟨Tryz.f297, []⟩
theorem fi297_ok : fnB fi297 = true := by decide +kernel
noncomputable def fi298 : FI := ⟨Tryz.f298, []⟩
theorem fi298_ok : fnB fi298 = true := by decide +kernel
noncomputable def fi299 : FI := ⟨Tryz.f299, []⟩
theorem fi299_ok : fnB fi299 = true := by decide +kernel
noncomputable def fi300 : FI := ⟨Tryz.f300, []⟩
theorem fi300_ok : fnB fi300 = true := by decide +kernel
noncomputable def fi301 : FI := ⟨Tryz.f301, []⟩
theorem fi301_ok : fnB fi301 = true := by decide +kernel
noncomputable def fi302 : FI := ⟨Tryz.f302, []⟩
theorem fi302_ok : fnB fi302 = true := by decide +kernel
noncomputable def fi303 : FI := ⟨Tryz.f303, [(5, ⟨[0, 1, 3, 7, 0, 31, 63, 127], 0, (.h [0, 1, 2, 3, 4] (.o 5 (.h [6, 7] .nil)))⟩), (7, ⟨[0, 0, 2, 6, 14, 31, 63], 0, (.h [0, 1, 2, 3, 4, 5, 6] .nil)⟩)]⟩
theorem fi303_ok : fnB fi303 = true := by decide +kernel
noncomputable def fi304 : FI := ⟨Tryz.f304, []⟩
theorem fi304_ok : fnB fi304 = true := by decide +kernel
noncomputable def fi305 : FI := ⟨Tryz.f305, [(5, ⟨[0, 0, 0, 4, 12, 28, 0, 124, 0, 256, 768, 1792, 0, 4096, 16128, 4093, 36861, 102397, 262143, 524287, 1048575], 0, (.h [0, 1, 2, 3, 4, 5, 6, 7, 8, 9, 10, 11, 12, 13, 14, 15, 16] (.o 17 (.h [18, 19] (.o 20 .nil))))⟩)]⟩
theorem fi305_ok : fnB fi305 = true := by decide +kernel
noncomputable def fi306 : FI := ⟨Tryz.f306, [(7, ⟨[0, 0, 2, 6, 14, 0, 32, 96, 224, 480, 1022, 2047, 4095, 8191], 0, (.h [0, 1, 2, 3, 4, 5, 6, 7, 8, 9, 10, 11, 12] (.o 13 .nil))⟩)]⟩
theorem fi306_ok : fnB fi306 = true := by decide +kernel
noncomputable def fi307 : FI := ⟨Tryz.f307, [(1, ⟨[0, 1, 0, 4, 12, 28, 63], 0, (.h [0, 1, 2, 3, 4, 5, 6] .nil)⟩), (3, ⟨[0, 1, 3, 0, 8, 24, 56, 120, 255, 511], 128, (.h [0, 1, 2, 3, 4, 5, 6] (.o 7 (.h [8, 9] .nil)))⟩)]⟩
theorem fi307_ok : fnB fi307 = true := by decide +kernel
noncomputable def fi308 : FI := ⟨Tryz.f308, [(9, ⟨[0, 0, 2, 6, 14, 0, 32, 0, 224, 510, 1023, 2047], 0, (.h [0, 1, 2, 3, 4, 5, 6, 7, 8] (.o 9 (.o 10 (.h [11] .nil))))⟩)]⟩
theorem fi308_ok : fnB fi308 = true := by decide +kernel
noncomputable def fi309 : FI := ⟨Tryz.f309, []⟩
theorem fi309_ok : fnB fi309 = true := by decide +kernel
noncomputable def fi310 : FI := ⟨Tryz.f310, []⟩
theorem fi310_ok : fnB fi310 = true := by decide +kernel
noncomputable def fi311 : FI := ⟨Tryz.f311, []⟩
theorem fi311_ok : fnB fi311 = true := by decide +kernel
noncomputable def fi312 : FI := ⟨Tryz.f312, []⟩
theorem fi312_ok : fnB fi312 = true := by decide +kernel
noncomputable def fi313 : FI := ⟨Tryz.f313, []⟩
theorem fi313_ok : fnB fi313 = true := by decide +kernel
noncomputable def fi314 : FI := ⟨Tryz.f314, []⟩
theorem fi314_ok : fnB fi314 = true := by decide +kernel
noncomputable def fi315 : FI := ⟨Tryz.f315, []⟩
theorem fi315_ok : fnB fi315 = true := by decide +kernel
noncomputable def fi316 : FI := ⟨Tryz.f316, []⟩
theorem fi316_ok : fnB fi316 = true := by decide +kernel
noncomputable def fi317 : FI := ⟨Tryz.f317, []⟩
theorem fi317_ok : fnB fi317 = true := by decide +kernel
noncomputable def fi318 : FI := ⟨Tryz.f318, []⟩
theorem fi318_ok : fnB fi318 = true := by decide +kernel
noncomputable def fi319 : FI := ⟨Tryz.f319, []⟩
theorem fi319_ok : fnB fi319 = true := by decide +kernel
noncomputable def fi320 : FI := ⟨Tryz.f320, []⟩
theorem fi320_ok : fnB fi320 = true := by decide +kernel
noncomputable def fi321 : FI := ⟨Tryz.f321, []⟩
theorem fi321_ok : fnB fi321 = true := by decide +kernel
noncomputable def fi322 : FI := ⟨Tryz.f322, []⟩
theorem fi322_ok : fnB fi322 = true := by decide +kernel
noncomputable def fi323 : FI := ⟨Tryz.f323, [(9, ⟨[0, 0, 0, 4, 14, 30, 1, 127], 64, (.h [0, 1, 2, 3, 4, 5] (.o 6 (.o 7 .nil)))⟩), (10, ⟨[0, 0, 1, 7], 4, (.h [0, 1] (.o 2 (.o 3 .nil)))⟩)]⟩
theorem fi323_ok : fnB fi323 = true := by decide +kernel
noncomputable def fi324 : FI := ⟨Tryz.f324, [(9, ⟨[0, 1, 3, 7, 0, 0, 32, 0, 0, 480, 0, 1024, 0, 7168, 16352, 32767], 0, (.h [0, 1, 2, 3, 4, 5, 6, 7, 8, 9, 10, 11, 12, 13, 14] (.o 15 .nil))⟩)]⟩
theorem fi324_ok : fnB fi324 = true := by decide +kernel
noncomputable def fi325 : FI := ⟨Tryz.f325, [(8, ⟨[0, 1, 3, 7, 0, 0, 63], 0, (.h [0, 1, 2, 3, 4, 5] (.o 6 .nil))⟩)]⟩
theorem fi325_ok : fnB fi325 = true := by decide +kernel
noncomputable def fi326 : FI := ⟨Tryz.f326, []⟩
theorem fi326_ok : fnB fi326 = true := by decide +kernel
noncomputable def fi327 : FI := ⟨Tryz.f327, []⟩
theorem fi327_ok : fnB fi327 = true := by decide +kernel
noncomputable def fi328 : FI := ⟨Tryz.f328, []⟩
theorem fi328_ok : fnB fi328 = true := by decide +kernel
noncomputable def fi329 : FI := ⟨Tryz.f329, []⟩
theorem fi329_ok : fnB fi329 = true := by decide +kernel
noncomputable def fi330 : FI := ⟨Tryz.f330, []⟩
theorem fi330_ok : fnB fi330 = true := by decide +kernel
noncomputable def fi331 : FI := ⟨Tryz.f331, []⟩
theorem fi331_ok : fnB fi331 = true := by decide +kernel
noncomputable def fi332 : FI := ⟨Tryz.f332, []⟩
theorem fi332_ok : fnB fi332 = true := by decide +kernel
end Go.Proofs.YtkbpafbbogjifaaGreat
