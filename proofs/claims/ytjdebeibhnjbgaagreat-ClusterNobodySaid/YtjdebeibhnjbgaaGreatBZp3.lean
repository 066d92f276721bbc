/- A runner's tables: functions. -/
import Derived.Test.YtjdebeibhnjbgaaGreatBc
import Derived.Test.YtjdebeibhnjbgaaGreatProg
namespace Go.Proofs.YtjdebeibhnjbgaaGreat
open Go Go.Proofs.Rn
noncomputable def fi223 : FI := ⟨Tryz.f223, []⟩
theorem fi223_ok : fnB fi223 = true := by decide +kernel
noncomputable def fi224 : FI := ⟨Tryz.f224, []⟩
theorem fi224_ok : fnB fi224 = true := by decide +kernel
noncomputable def fi225 : FI := ⟨Tryz.f225, []⟩
theorem fi225_ok : fnB fi225 = true := by decide +kernel
noncomputable def fi226 : FI := ⟨Tryz.f226, [(6, ⟨[0, 1, 0, 0, 0, 16, 48, 124, 252, 511, 1023, 2047], 224, (.h [0, 1, 2, 3, 4] (.o 5 (.h [6, 7] (.o 8 (.o 9 (.h [10] (.o 11 .nil)))))))⟩)]⟩
theorem fi226_ok : fnB fi226 = true := by decide +kernel
noncomputable def fi227 : FI := ⟨Tryz.f227, [(5, ⟨[0, 1, 0, 7, 15, 0, 63], 2, (.h [0, 2] (.w 1 5 (.w 3 5 (.h [4] (.o 5 (.o 6 .nil))) (.o 3 (.h [4] (.o 6 .nil)))) (.o 1 (.o 3 (.h [4] (.o 6 .nil))))))⟩)]⟩
theorem fi227_ok : fnB fi227 = true := by decide +kernel
noncomputable def fi228 : FI := ⟨Tryz.f228, []⟩
theorem fi228_ok : fnB fi228 = true := by decide +kernel
noncomputable def fi229 : FI := ⟨Tryz.f229, [(7, ⟨[0, 1, 3, 0, 8, 0, 0, 0, 0, 256, 775, 2047, 4095, 8191], 1028, (.h [0, 1, 3, 4, 6, 7, 8, 9] (.w 2 5 (.w 5 10 (.o 10 (.h [11] (.o 12 (.h [13] .nil)))) (.o 5 (.h [11] (.o 12 (.h [13] .nil))))) (.o 2 (.o 10 (.h [11] (.o 12 (.h [13] .nil)))))))⟩), (12, ⟨[0, 1, 3, 7, 15, 7, 39, 7, 135, 487, 999, 2023, 4095, 8191, 16383, 32767, 32767, 131071, 262143, 524287], 0, (.h [0, 1, 2, 3, 4, 5, 6, 7, 8, 9, 10, 11, 12, 13, 14, 15, 16] (.o 17 (.h [18, 19] .nil)))⟩), (14, ⟨[0, 1, 3, 7, 0, 16, 0, 127], 0, (.h [0, 1, 2, 3, 4, 5, 6] (.o 7 .nil))⟩)]⟩
theorem fi229_ok : fnB fi229 = true := by decide +kernel
noncomputable def fi230 : FI := ⟨Tryz.f230, [(1, ⟨[0, 1, 3, 7, 0, 16, 48, 112, 255, 511, 1023, 1023, 2047, 8191], 0, (.h [0, 1, 2, 3, 4, 5, 6, 7] (.o 8 (.h [9, 10, 11, 12, 13] .nil)))⟩)]⟩
theorem fi230_ok : fnB fi230 = true := by decide +kernel
noncomputable def fi231 : FI := ⟨Tryz.f231, [(8, ⟨[0, 0, 2, 6, 14, 0, 0, 126, 0, 0, 0, 1024, 3840, 7936, 16382, 32767, 65535, 131071], 6144, (.h [0, 1, 2, 3, 4, 5, 6, 7, 8, 9, 10] (.o 11 (.h [12] (.o 13 (.o 14 (.h [15, 16] (.o 17 .nil)))))))⟩)]⟩
theorem fi231_ok : fnB fi231 = true := by decide +kernel
noncomputable def fi232 : FI := ⟨Tryz.f232, []⟩
theorem fi232_ok : fnB fi232 = true := by decide +kernel
noncomputable def fi233 : FI := ⟨Tryz.f233, [(0, ⟨[0, 1, 3, 7, 0, 16, 48, 112, 0, 256, 768, 1792, 0, 4096, 12288, 28672, 61440, 0, 131072, 393216, 917504, 1966080, 4194288, 8388607], 6291456, (.h [0, 1, 2, 3, 4, 5, 6, 7, 8, 9, 10, 11, 12, 13, 14, 15, 16, 17, 18, 19, 20] (.o 21 (.o 22 (.o 23 .nil))))⟩)]⟩
theorem fi233_ok : fnB fi233 = true := by decide +kernel
noncomputable def fi234 : FI := ⟨Tryz.f234, []⟩
theorem fi234_ok : fnB fi234 = true := by decide +kernel
noncomputable def fi235 : FI := ⟨Tryz.f235, []⟩
theorem fi235_ok : fnB fi235 = true := by decide +kernel
noncomputable def fi236 : FI := ⟨Tryz.f236, []⟩
theorem fi236_ok : fnB fi236 = true := by decide +kernel
noncomputable def fi237 : FI := ⟨Tryz.f237, [(1, ⟨[0, 1, 3, 7, 15, 0, 32, 96, 224, 511, 1023, 2047, 4095], 16, (.h [0, 1, 2, 3, 5, 6, 7, 8] (.o 4 (.o 9 (.h [10, 11, 12] .nil))))⟩)]⟩
theorem fi237_ok : fnB fi237 = true := by decide +kernel
noncomputable def fi238 : FI := ⟨Tryz.f238, []⟩
theorem fi238_ok : fnB fi238 = true := by decide +kernel
noncomputable def fi239 : FI := ⟨Tryz.f239, []⟩
theorem fi239_ok : fnB fi239 = true := by decide +kernel
noncomputable def fi240 : FI := ⟨Tryz.f240, []⟩
theorem fi240_ok : fnB fi240 = true := by decide +kernel
noncomputable def fi241 : FI := ⟨Tryz.f241, []⟩
theorem fi241_ok : fnB fi241 = true := by decide +kernel
noncomputable def fi242 : FI := ⟨Tryz.f242, []⟩
theorem fi242_ok : fnB fi242 = true := by decide +kernel
noncomputable def fi243 : FI := ⟨Tryz.f243, []⟩
theorem fi243_ok : fnB fi243 = true := by decide +kernel
noncomputable def fi244 : FI := ⟨Tryz.f244, []⟩
theorem fi244_ok : fnB fi244 = true := by decide +kernel
noncomputable def fi245 : FI := ⟨Tryz.f245, []⟩
theorem fi245_ok : fnB fi245 = true := by decide +kernel
noncomputable def fi246 : FI := ⟨Tryz.f246, []⟩
theorem fi246_ok : fnB fi246 = true := by decide +kernel
noncomputable def fi247 : FI := ⟨Tryz.f247, []⟩
theorem fi247_ok : fnB fi247 = true := by decide +kernel
noncomputable def fi248 : FI := ⟨Tryz.f248, []⟩
theorem fi248_ok : fnB fi248 = true := by decide +kernel
noncomputable def fi249 : FI := ⟨Tryz.f249, [(2, ⟨[0, 1, 3, 7, 0, 16, 48, 112, 240, 511], 0, (.h [0, 1, 2, 3, 4, 5, 6, 7, 8] (.o 9 .nil))⟩)]⟩
theorem fi249_ok : fnB fi249 = true := by decide +kernel
noncomputable def fi250 : FI := ⟨Tryz.f250, [(0, ⟨[0, 1, 3, 7, 15, 15, 47, 111, 239, 15, 527, 1551, 15, 4111, 12303, 28687, 61455, 130575, 262127, 524287, 1048575, 2097151], 524272, (.h [0] (.o 1 (.h [2, 3, 4, 5, 6, 7, 8, 9, 12, 13, 14, 15, 16] (.o 10 (.h [11, 17] (.o 18 (.o 19 (.h [20, 21] .nil))))))))⟩)]⟩
theorem fi250_ok : fnB fi250 = true := by decide +kernel
noncomputable def fi251 : FI := ⟨Tryz.f251, []⟩
theorem fi251_ok : fnB fi251 = true := by decide +kernel
noncomputable def fi252 : FI := ⟨Tryz.f252, []⟩
theorem fi252_ok : fnB fi252 = true := by decide +kernel
noncomputable def fi253 : FI := ⟨Tryz.f253, []⟩
theorem fi253_ok : fnB fi253 = true := by decide +kernel
noncomputable def fi254 : FI := ⟨Tryz.f254, []⟩
theorem fi254_ok : fnB fi254 = true := by decide +kernel
noncomputable def fi255 : FI := ⟨Tryz.f255, [(5, ⟨[0, 1, 3, 7, 0, 16, 0, 64, 0, 0, 512, 1792, 4095, 0, 16383], 3072, (.h [0, 1, 2, 3, 4, 5, 6, 7, 8, 9] (.w 10 13 (.w 11 13 (.h [12] (.o 13 (.o 14 .nil))) (.o 11 (.h [12] (.o 14 .nil)))) (.o 10 (.o 11 (.h [12] (.o 14 .nil))))))⟩), (6, ⟨[0, 1, 3, 7, 0, 16, 0, 64, 255, 511, 1023, 1023, 0, 6143, 16383], 0, (.h [0, 1, 2, 3, 4, 5, 6, 7] (.w 8 12 (.h [9, 10, 11] (.o 12 (.h [13] (.o 14 .nil)))) (.o 8 (.h [9, 10, 11, 13] (.o 14 .nil)))))⟩), (21, ⟨[0, 1, 3, 7, 0, 16, 0, 64, 0, 256, 1023], 0, (.h [0, 1, 2, 3, 4, 5, 6, 7, 8, 9] (.o 10 .nil))⟩)]⟩
theorem fi255_ok : fnB fi255 = true := by decide +kernel
noncomputable def fi256 : FI := ⟨Tryz.f256, []⟩
theorem fi256_ok : fnB fi256 = true := by decide +kernel
noncomputable def fi257 : FI := ⟨Tryz.f257, []⟩
theorem fi257_ok : fnB fi257 = true := by decide +kernel
noncomputable def fi258 : FI := ⟨Tryz.f258, []⟩
theorem fi258_ok : fnB fi258 = true := by decide +kernel
noncomputable def fi259 : FI := ⟨Tryz.f259, []⟩
theorem fi259_ok : fnB fi259 = true := by decide +kernel
noncomputable def fi260 : FI := ⟨Tryz.f260, [(4, ⟨[0, 1, 3, 7, 15, 0, 63, 127], 0, (.h [0, 1, 2, 3, 4, 5] (.o 6 (.h [7] .nil)))⟩), (8, ⟨[0, 1, 3, 7, 15, 0, 32, 127, 255, 511, 511, 0, 3071, 8191], 0, (.h [0, 1, 2, 3, 4, 5, 6] (.w 7 11 (.h [8, 9, 10] (.o 11 (.o 12 (.h [13] .nil)))) (.o 7 (.h [8, 9, 10] (.o 12 (.h [13] .nil))))))⟩)]⟩
theorem fi260_ok : fnB fi260 = true := by decide +kernel
noncomputable def fi261 : FI := ⟨Tryz.f261, []⟩
theorem fi261_ok : fnB fi261 = true := by decide +kernel
noncomputable def fi262 : FI := ⟨Tryz.f262, []⟩
theorem fi262_ok : fnB fi262 = true := by decide +kernel
noncomputable def fi263 : FI := ⟨Tryz.f263, []⟩
theorem fi263_ok : fnB fi263 = true := by decide +kernel
noncomputable def fi264 : FI := ⟨Tryz.f264, []⟩
theorem fi264_ok : fnB fi264 = true := by decide +kernel
noncomputable def fi265 : FI := ⟨Tryz.f265, [(26, ⟨[0, 0, 2, 6, 14, 0, 32, 126, 255, 511, 1023], 0, (.h [0, 1, 2, 3, 4, 5] (.o 6 (.o 7 (.h [8, 9] (.o 10 .nil)))))⟩)]⟩
theorem fi265_ok : fnB fi265 = true := by decide +kernel
noncomputable def fi266 : FI := ⟨Tryz.f266, []⟩
theorem fi266_ok : fnB fi266 = true := by decide +kernel
noncomputable def fi267 : FI := ⟨Tryz.f267, [(1, ⟨[0, 1, 3, 7, 15, 31, 63, 127, 255, 511, 1023, 511, 2559, 6655, 14847, 31231, 65535, 131071], 65024, (.h [0] (.o 1 (.h [2, 3, 4] (.o 5 (.h [6, 7, 8, 9, 10, 11, 12, 13, 14, 15, 16, 17] .nil)))))⟩)]⟩
theorem fi267_ok : fnB fi267 = true := by decide +kernel
noncomputable def fi268 : FI := ⟨Tryz.f268, []⟩
theorem fi268_ok : fnB fi268 = true := by decide +kernel
noncomputable def fi269 : FI := ⟨Tryz.f269, []⟩
theorem fi269_ok : fnB fi269 = true := by decide +kernel
noncomputable def fi270 : FI := ⟨Tryz.f270, []⟩
theorem fi270_ok : fnB fi270 = true := by decide +kernel
noncomputable def fi271 : FI := ⟨Tryz.f271, []⟩
theorem fi271_ok : fnB fi271 = true := by decide +kernel
noncomputable def fi272 : FI := ⟨Tryz.f272, []⟩
theorem fi272_ok : fnB fi272 = true := by decide +kernel
noncomputable def fi273 : FI := ⟨Tryz.f273, []⟩
theorem fi273_ok : fnB fi273 = true := by decide +kernel
noncomputable def fi274 : FI := ⟨Tryz.f274, []⟩
theorem fi274_ok : fnB fi274 = true := by decide +kernel
noncomputable def fi275 : FI := ⟨Tryz.f275, [(9, ⟨[0, 0, 2, 6, 14, 0, 0, 64, 0, 448, 960, 2016, 4064, 8160, 16382, 32767, 65535, 131071], 0, (.h [0, 1, 2, 3, 4, 5, 6, 7, 8, 9, 10, 11, 12] (.o 13 (.o 14 (.h [15, 16] (.o 17 .nil)))))⟩)]⟩
theorem fi275_ok : fnB fi275 = true := by decide +kernel
noncomputable def fi276 : FI := ⟨Tryz.f276, [(10, ⟨[0, 1, 3, 7, 15, 7, 39, 127, 255, 7, 1023, 2047, 4095], 0, (.h [0, 1, 2, 3, 4, 5, 6, 7, 8, 9] (.o 10 (.h [11, 12] .nil)))⟩)]⟩
theorem fi276_ok : fnB fi276 = true := by decide +kernel
noncomputable def fi277 : FI := ⟨Tryz.f277, []⟩
theorem fi277_ok : fnB fi277 = true := by decide +kernel
noncomputable def fi278 : FI := ⟨Tryz.f278, []⟩
theorem fi278_ok : fnB fi278 = true := by decide +kernel
noncomputable def fi279 : FI := ⟨Tryz.f279, []⟩
theorem fi279_ok : fnB fi279 = true := by decide +kernel
noncomputable def fi280 : FI := ⟨Tryz.f280, []⟩
theorem fi280_ok : fnB fi280 = true := by decide +kernel
noncomputable def fi281 : FI := ⟨Tryz.f281, []⟩
theorem fi281_ok : fnB fi281 = true := by decide +kernel
noncomputable def fi282 : FI := ⟨Tryz.f282, []⟩
theorem fi282_ok : fnB fi282 = true := by decide +kernel
noncomputable def fi283 : FI := ⟨Tryz.f283, []⟩
theorem fi283_ok : fnB fi283 = true := by decide +kernel
noncomputable def fi284 : FI := ⟨Tryz.f284, []⟩
theorem fi284_ok : fnB fi284 = true := by decide +kernel
noncomputable def fi285 : FI := ⟨Tryz.f285, [(3, ⟨[0, 1, 3, 7, 0, 0, 32, 96, 224, 496, 1008, 0, 0, 4096, 12288, 28672, 63488, 131071, 262143, 524287, 1048575, 2097151, 4194303], 0, (.h [0, 1, 2, 3, 4, 5, 6, 7, 8, 9, 10, 11, 12, 13, 14, 15, 16, 17] (.o 18 (.h [19, 20] (.o 21 (.h [22] .nil)))))⟩)]⟩
theorem fi285_ok : fnB fi285 = true := by decide +kernel
noncomputable def fi286 : FI := ⟨Tryz.f286, []⟩
theorem fi286_ok : fnB fi286 = true := by decide +kernel
noncomputable def fi287 : FI := ⟨Tryz.f287, [(7, ⟨[0, 0, 0, 1, 9, 31, 63], 0, (.h [0, 1, 3, 4] (.o 2 (.h [5] (.o 6 .nil))))⟩)]⟩
theorem fi287_ok : fnB fi287 = true := by decide +kernel
noncomputable def fi288 : FI := ⟨Tryz.f288, []⟩
theorem fi288_ok : fnB fi288 = true := by decide +kernel
noncomputable def fi289 : FI := ⟨Tryz.f289, []⟩
theorem fi289_ok : fnB fi289 = true := by decide +kernel
noncomputable def fi290 : FI := ⟨Tryz.f290, [(1, ⟨[0, 1, 0, 4, 12, 28, 63, 127, 255, 511, 255, 2047, 4095, 8191], 0, (.h [0, 1, 2, 3, 4, 5, 6, 7, 8, 9, 10, 11, 12, 13] .nil)⟩)]⟩
theorem fi290_ok : fnB fi290 = true := by decide +kernel
noncomputable def fi291 : FI := ⟨Tryz.f291, [(7, ⟨[0, 1, 3, 0, 8, 0, 7, 95, 255, 511], 0, (.h [0, 1, 2, 3, 4, 5, 6, 7] (.o 8 (.h [9] .nil)))⟩)]⟩
theorem fi291_ok : fnB fi291 = true := by decide +kernel
noncomputable def fi292 : FI := ⟨Tryz.f292, []⟩
theorem fi292_ok : fnB fi292 = true := by decide +kernel
noncomputable def fi293 : FI := ⟨Tryz.f293, [(12, ⟨[0, 1, 3, 7, 0, 0, 0, 64, 224, 511], 384, (.h [0, 1, 2, 3, 4, 5, 6] (.o 7 (.h [8] (.o 9 .nil))))⟩)]⟩
theorem fi293_ok : fnB fi293 = true := by decide +kernel
noncomputable def fi294 : FI := ⟨Tryz.f294, [(5, ⟨[0, 1, 3, 7, 0, 16, 63, 127, 255, 255, 0, 1535, 4095], 0, (.h [0, 1, 2, 3, 4, 5, 6, 7, 8, 9] (.o 10 (.o 11 (.h [12] .nil))))⟩), (11, ⟨[0, 1, 3, 7, 0, 0, 32, 127], 64, (.h [0, 1, 2, 3, 4, 5] (.o 6 (.o 7 .nil)))⟩)]⟩
theorem fi294_ok : fnB fi294 = true := by decide +kernel
noncomputable def fi295 : FI := ⟨Tryz.f295, []⟩
theorem fi295_ok : fnB fi295 = true := by decide +kernel
noncomputable def fi296 : FI := ⟨Tryz.f296, []⟩
theorem fi296_ok : fnB fi296 = true := by decide +kernel
noncomputable def fi297 : FI := ⟨Tryz.f297, []⟩
theorem fi297_ok : fnB fi297 = true := by decide +kernel
noncomputable def fi298 : FI := ⟨Tryz.f298, []⟩
theorem fi298_ok : fnB fi298 = true := by decide +kernel
noncomputable def fi299 : FI := ⟨Tryz.f299, [(7, ⟨[0, 1, 0, 4, 12, 31, 63, 127], 8, (.h [0, 1, 2] (.o 3 (.o 4 (.o 5 (.h [6] (.o 7 .nil))))))⟩)]⟩
theorem fi299_ok : fnB fi299 = true := by decide +kernel
noncomputable def fi300 : FI := ⟨Tryz.f300, [(7, ⟨[0, 1, 3, 7, 0, 0, 0, 64, 224, 511], 384, (.h [0, 1, 2, 3, 4, 5, 6] (.o 7 (.h [8] (.o 9 .nil))))⟩)]⟩
theorem fi300_ok : fnB fi300 = true := by decide +kernel
noncomputable def fi301 : FI := ⟨Tryz.f301, [(3, ⟨[0, 1, 0, 4, 12, 31, 63, 127, 255], 16, (.h [0, 1, 2, 3] (.o 4 (.h [5] (.o 6 (.h [7, 8] .nil)))))⟩)]⟩
theorem fi301_ok : fnB fi301 = true := by decide +kernel
noncomputable def fi302 : FI := ⟨Tryz.f302, [(2, ⟨[0, 1, 3, 7, 15, 31, 63, 127, 255, 511, 255, 1279, 3327, 8191, 16383, 32767, 65535, 131071, 65535, 327679, 1048575, 2097151], 990976, (.h [0, 1, 2, 3] (.o 4 (.h [5, 6, 7, 8, 9, 10, 11, 12, 13, 14, 15, 16, 17, 18] (.o 19 (.h [20, 21] .nil)))))⟩), (7, ⟨[0, 1, 3, 7, 0, 16, 63, 127, 255, 255, 0, 1535, 4095], 0, (.h [0, 1, 2, 3, 4, 5] (.w 6 10 (.h [7, 8, 9] (.o 10 (.o 11 (.h [12] .nil)))) (.o 6 (.h [7, 8, 9] (.o 11 (.h [12] .nil))))))⟩)]⟩
theorem fi302_ok : fnB fi302 = true := by decide +kernel
noncomputable def fi303 : FI := ⟨Tryz.f303, []⟩
theorem fi303_ok : fnB fi303 = true := by decide +kernel
noncomputable def fi304 : FI := ⟨Tryz.f304, []⟩
theorem fi304_ok : fnB fi304 = true := by decide +kernel
noncomputable def fi305 : FI := ⟨Tryz.f305, []⟩
theorem fi305_ok : fnB fi305 = true := by decide +kernel
noncomputable def fi306 : FI := ⟨Tryz.f306, [(1, ⟨[0, 0, 2, 6, 14, 0, 0, 64, 192, 448, 992, 2046, 4095, 8191, 16383], 0, (.h [0, 1, 2, 3, 4, 5, 6, 7, 8, 9, 10, 11, 12, 13] (.o 14 .nil))⟩)]⟩
theorem fi306_ok : fnB fi306 = true := by decide +kernel
noncomputable def fi307 : FI := ⟨Tryz.f307, []⟩
theorem fi307_ok : fnB fi307 = true := by decide +kernel
noncomputable def fi308 : FI := ⟨Tryz.f308, [(6, ⟨[0, 0, 3, 7, 0, 0, 48, 112, 255], 0, (.h [0, 1, 2, 3, 4, 5, 6, 7, 8] .nil)⟩)]⟩
theorem fi308_ok : fnB fi308 = true := by decide +kernel
noncomputable def fi309 : FI := ⟨Tryz.f309, []⟩
theorem fi309_ok : fnB fi309 = true := by decide +kernel
noncomputable def fi310 : FI := ⟨Tryz.f310, []⟩
theorem fi310_ok : fnB fi310 = true := by decide +kernel
noncomputable def fi311 : FI := ⟨Tryz.f311, []⟩
theorem fi311_ok : fnB fi311 = true := by decide +kernel
noncomputable def fi312 : FI := ⟨Tryz.f312, []⟩
theorem fi312_ok : fnB fi312 = true := by decide +kernel
noncomputable def fi313 : FI := ⟨Tryz.f313, []⟩
theorem fi313_ok : fnB fi313 = true := by decide +kernel
noncomputable def fi314 : FI := ⟨Tryz.f314, [(1, ⟨[0, 0, 2, 6, 14, 0, 32, 0, 0, 480, 992, 2046, 4095, 8191], 576, (.h [0, 1, 2, 3, 4, 5, 7, 8] (.o 6 (.h [9] (.o 10 (.o 11 (.o 12 (.h [13] .nil)))))))⟩)]⟩
theorem fi314_ok : fnB fi314 = true := by decide +kernel
noncomputable def fi315 : FI := ⟨Tryz.f315, [(1, ⟨[0, 1, 3, 7, 0, 16, 48, 112, 0, 256, 768, 1792, 3840, 0, 8192, 24576, 57344, 122880, 262143, 524287], 131072, (.h [0, 1, 2, 3, 4, 5, 6, 7, 8, 9, 10, 11, 12, 13, 14, 15, 16] (.o 17 (.o 18 (.h [19] .nil))))⟩)]⟩
theorem fi315_ok : fnB fi315 = true := by decide +kernel
noncomputable def fi316 : FI := ⟨Tryz.f316, []⟩
theorem fi316_ok : fnB fi316 = true := by decide +kernel
noncomputable def fi317 : FI := ⟨Tryz.f317, []⟩
theorem fi317_ok : fnB fi317 = true := by decide +kernel
noncomputable def fi318 : FI := ⟨Tryz.f318, []⟩
theorem fi318_ok : fnB fi318 = true := by decide +kernel
noncomputable def fi319 : FI := ⟨Tryz.f319, []⟩
theorem fi319_ok : fnB fi319 = true := by decide +kernel
noncomputable def fi320 : FI := ⟨Tryz.f320, []⟩
theorem fi320_ok : fnB fi320 = true := by decide +kernel
noncomputable def fi321 : FI := ⟨Tryz.f321, []⟩
theorem fi321_ok : fnB fi321 = true := by decide +kernel
noncomputable def fi322 : FI := ⟨Tryz.f322, [(17, ⟨[0, 1, 3, 7, 7, 23, 63, 127, 7, 7, 775, 1799, 4095, 8191, 16383], 0, (.h [0, 1, 2, 3, 4, 5, 6, 7, 8, 9, 10, 11] (.o 12 (.h [13, 14] .nil)))⟩)]⟩
theorem fi322_ok : fnB fi322 = true := by decide +kernel
noncomputable def fi323 : FI := ⟨Tryz.f323, []⟩
theorem fi323_ok : fnB fi323 = true := by decide +kernel
noncomputable def fi324 : FI := ⟨Tryz.f324, []⟩
theorem fi324_ok : fnB fi324 = true := by decide +kernel
noncomputable def fi325 : FI := ⟨Tryz.f325, []⟩
theorem fi325_ok : fnB fi325 = true := by decide +kernel
noncomputable def fi326 : FI := ⟨Tryz.f326, [(6, ⟨[0, 1, 3, 7, 15, 0, 32, 96, 255, 0, 1023, 2047], 192, (.h [0, 1, 2, 3, 4, 5, 9] (.o 6 (.h [7, 8, 10, 11] .nil)))⟩)]⟩
theorem fi326_ok : fnB fi326 = true := by decide +kernel
noncomputable def fi327 : FI := ⟨Tryz.f327, [(4, ⟨[0, 0, 2, 6, 14, 30, 0, 126, 255, 511], 0, (.h [0, 1, 2, 3, 4, 5, 6] (.o 7 (.o 8 (.h [9] .nil))))⟩)]⟩
theorem fi327_ok : fnB fi327 = true := by decide +kernel
noncomputable def fi328 : FI := ⟨Tryz.f328, [(1, ⟨[0, 0, 0, 4, 0, 16, 48, 112, 252, 508, 1020, 2045, 4093, 8189, 16383, 32767, 65535], 8, (.h [0, 1, 2, 4, 5, 6, 7] (.o 3 (.o 8 (.o 9 (.o 10 (.h [11, 12] (.o 13 (.h [14, 15] (.o 16 .nil)))))))))⟩)]⟩
theorem fi328_ok : fnB fi328 = true := by decide +kernel
noncomputable def fi329 : FI := ⟨Tryz.f329, []⟩
theorem fi329_ok : fnB fi329 = true := by decide +kernel
noncomputable def fi330 : FI := ⟨Tryz.f330, []⟩
theorem fi330_ok : fnB fi330 = true := by decide +kernel
noncomputable def fi331 : FI := ⟨Tryz.f331, []⟩
theorem fi331_ok : fnB fi331 = true := by decide +kernel
noncomputable def fi332 : FI := ⟨Tryz.f332, []⟩
theorem fi332_ok : fnB fi332 = true := by decide +kernel
end Go.Proofs.YtjdebeibhnjbgaaGreat
