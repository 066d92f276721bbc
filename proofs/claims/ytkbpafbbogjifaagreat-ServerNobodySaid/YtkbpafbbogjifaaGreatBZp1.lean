/- A runner's tables: functions. -/
import Derived.Test.YtkbpafbbogjifaaGreatBc
import Derived.Test.YtkbpafbbogjifaaGreatProg
namespace Go.Proofs.YtkbpafbbogjifaaGreat
open Go Go.Proofs.Rn
noncomputable def fi2 : FI := ⟨Tryz.f2, []⟩
theorem fi2_ok : fnB fi2 = true := by decide +kernel
noncomputable def fi3 : FI := ⟨Tryz.f3, [(20, ⟨[0, 0, 0, 0, 8, 28, 0, 0, 128, 508, 0, 0, 2048, 8188, 0, 0, 32768, 131068, 0, 0, 524288, 0, 2097152, 8388604, 16777215, 33554431, 0], 8528416, (.h [0, 1, 2, 3, 4, 6, 7, 8, 10, 11, 12, 14, 15, 16, 18, 19, 20, 21, 22, 26] (.o 5 (.o 9 (.o 13 (.o 17 (.o 23 (.o 24 (.h [25] .nil))))))))⟩)]⟩
theorem fi3_ok : fnB fi3 = true := by decide +kernel
noncomputable def fi4 : FI := ⟨Tryz.f4, []⟩
theorem fi4_ok : fnB fi4 = true := by decide +kernel
noncomputable def fi5 : FI := ⟨Tryz.f5, []⟩
theorem fi5_ok : fnB fi5 = true := by decide +kernel
noncomputable def fi6 : FI := ⟨Tryz.f6, []⟩
theorem fi6_ok : fnB fi6 = true := by decide +kernel
noncomputable def fi7 : FI := ⟨Tryz.f7, [(6, ⟨[0, 0, 0, 7, 15, 31], 4, (.h [0, 1] (.o 2 (.h [3] (.o 4 (.h [5] .nil)))))⟩)]⟩
theorem fi7_ok : fnB fi7 = true := by decide +kernel
noncomputable def fi8 : FI := ⟨Tryz.f8, []⟩
theorem fi8_ok : fnB fi8 = true := by decide +kernel
noncomputable def fi9 : FI := ⟨Tryz.f9, []⟩
theorem fi9_ok : fnB fi9 = true := by decide +kernel
noncomputable def fi10 : FI := ⟨Tryz.f10, [(6, ⟨[0, 1, 3, 7, 15, 31, 63, 127, 255, 15, 527, 2047, 4095, 8191, 16383, 32767, 65535, 131071, 8191, 270335, 1048575, 2097151, 4194303], 0, (.h [0, 1, 2, 3, 4, 5, 6, 7, 8, 9, 10, 11, 12, 13, 14, 15, 16, 17, 18, 19, 20, 21, 22] .nil)⟩), (12, ⟨[0, 0, 0, 0, 8, 5, 37, 101, 229, 511, 1023, 2047, 4095], 256, (.h [0, 1, 2, 3, 4, 5, 6, 7] (.o 8 (.h [9, 10, 11] (.o 12 .nil))))⟩)]⟩
theorem fi10_ok : fnB fi10 = true := by decide +kernel
noncomputable def fi11 : FI := ⟨Tryz.f11, []⟩
theorem fi11_ok : fnB fi11 = true := by decide +kernel
noncomputable def fi12 : FI := ⟨Tryz.f12, []⟩
theorem fi12_ok : fnB fi12 = true := by decide +kernel
noncomputable def fi13 : FI := ⟨Tryz.f13, [(7, ⟨[0, 0, 2, 6, 14, 0, 62, 127], 0, (.h [0, 1, 2, 3, 4, 5] (.o 6 (.o 7 .nil)))⟩)]⟩
theorem fi13_ok : fnB fi13 = true := by decide +kernel
noncomputable def fi14 : FI := ⟨Tryz.f14, [(12, ⟨[0, 0, 2, 6, 14, 0, 32, 126, 255, 511, 1023], 0, (.h [0, 1, 2, 3, 4, 5] (.o 6 (.o 7 (.h [8, 9] (.o 10 .nil)))))⟩)]⟩
theorem fi14_ok : fnB fi14 = true := by decide +kernel
noncomputable def fi15 : FI := ⟨Tryz.f15, []⟩
theorem fi15_ok : fnB fi15 = true := by decide +kernel
noncomputable def fi16 : FI := ⟨Tryz.f16, []⟩
theorem fi16_ok : fnB fi16 = true := by decide +kernel
noncomputable def fi17 : FI := ⟨Tryz.f17, []⟩
theorem fi17_ok : fnB fi17 = true := by decide +kernel
noncomputable def fi18 : FI := ⟨Tryz.f18, []⟩
theorem fi18_ok : fnB fi18 = true := by decide +kernel
noncomputable def fi19 : FI := ⟨Tryz.f19, []⟩
theorem fi19_ok : fnB fi19 = true := by decide +kernel
noncomputable def fi20 : FI := ⟨Tryz.f20, []⟩
theorem fi20_ok : fnB fi20 = true := by decide +kernel
noncomputable def fi21 : FI := ⟨Tryz.f21, []⟩
theorem fi21_ok : fnB fi21 = true := by decide +kernel
noncomputable def fi22 : FI := ⟨Tryz.f22, []⟩
theorem fi22_ok : fnB fi22 = true := by decide +kernel
noncomputable def fi23 : FI := ⟨Tryz.f23, []⟩
theorem fi23_ok : fnB fi23 = true := by decide +kernel
noncomputable def fi24 : FI := ⟨Tryz.f24, [(7, ⟨[0, 0, 0, 4, 0, 28, 63, 127, 255], 40, (.h [0, 1, 2, 4] (.o 3 (.o 5 (.h [6] (.o 7 (.h [8] .nil))))))⟩)]⟩
theorem fi24_ok : fnB fi24 = true := by decide +kernel
noncomputable def fi25 : FI := ⟨Tryz.f25, []⟩
theorem fi25_ok : fnB fi25 = true := by decide +kernel
noncomputable def fi26 : FI := ⟨Tryz.f26, [(7, ⟨[0, 1, 3, 7, 0, 16, 0, 64, 192, 448, 0, 1024, 3072, 7168, 16320, 32704, 65535, 131071, 262143], 0, (.h [0, 1, 2, 3, 4, 5, 6, 7, 8, 9, 10, 11, 12, 13, 14, 15] (.o 16 (.h [17] (.o 18 .nil))))⟩), (10, ⟨[0, 1, 3, 7, 0, 16, 48, 112, 255, 511, 1023], 0, (.h [0, 1, 2, 3, 4, 5, 6, 7] (.o 8 (.h [9] (.o 10 .nil))))⟩)]⟩
theorem fi26_ok : fnB fi26 = true := by decide +kernel
noncomputable def fi27 : FI := ⟨Tryz.f27, []⟩
theorem fi27_ok : fnB fi27 = true := by decide +kernel
noncomputable def fi28 : FI := ⟨Tryz.f28, []⟩
theorem fi28_ok : fnB fi28 = true := by decide +kernel
noncomputable def fi29 : FI := ⟨Tryz.f29, []⟩
theorem fi29_ok : fnB fi29 = true := by decide +kernel
noncomputable def fi30 : FI := ⟨Tryz.f30, []⟩
theorem fi30_ok : fnB fi30 = true := by decide +kernel
noncomputable def fi31 : FI := ⟨Tryz.f31, [(5, ⟨[0, 1, 3, 7, 0, 16, 48, 112, 240, 511, 1023], 0, (.h [0, 1, 2, 3, 4, 5, 6, 7, 8, 9, 10] .nil)⟩), (6, ⟨[0, 1, 3, 7, 0, 16, 48, 112, 240, 0, 512, 1536, 3584, 7680, 15872, 32752, 65535], 0, (.h [0, 1, 2, 3, 4, 5, 6, 7, 8, 9, 10, 11, 12, 13, 14, 15, 16] .nil)⟩), (11, ⟨[0, 1, 3, 7, 0, 16, 48, 112, 0, 256, 768, 1792, 3840, 8191, 16383], 0, (.h [0, 1, 2, 3, 4, 5, 6, 7, 8, 9, 10, 11, 12] (.o 13 (.h [14] .nil)))⟩), (14, ⟨[0, 1, 3, 7, 0, 16, 48, 112, 240, 511], 0, (.h [0, 1, 2, 3, 4, 5, 6, 7, 8, 9] .nil)⟩)]⟩
theorem fi31_ok : fnB fi31 = true := by decide +kernel
noncomputable def fi32 : FI := ⟨Tryz.f32, [(19, ⟨[0, 1, 0, 0, 8, 28, 0, 64, 192, 448, 1020, 0, 2048, 6144, 14336, 32764, 65535, 0, 262143], 33824, (.h [0, 1, 2, 3, 4, 6, 7, 8, 9, 11, 12, 13, 14] (.w 5 17 (.w 10 17 (.w 15 17 (.h [16] (.o 17 (.o 18 .nil))) (.o 15 (.h [16] (.o 18 .nil)))) (.o 10 (.o 15 (.h [16] (.o 18 .nil))))) (.o 5 (.o 10 (.o 15 (.h [16] (.o 18 .nil)))))))⟩), (20, ⟨[0, 1, 3, 7, 0, 16, 63, 127, 255, 255, 511, 1535, 4095, 8191], 0, (.h [0, 1, 2, 3, 4, 5] (.o 6 (.h [7, 8, 9, 10] (.o 11 (.h [12] (.o 13 .nil))))))⟩), (21, ⟨[0, 0, 2, 6, 14, 30, 0, 64, 254, 511, 1023, 2047, 4095], 0, (.h [0, 1, 2, 3, 4, 5, 6] (.o 7 (.o 8 (.h [9, 10, 11] (.o 12 .nil)))))⟩), (26, ⟨[0, 0, 2, 6, 14, 30, 0, 64, 0, 0, 512, 1792, 4032, 8128, 16382, 32767, 65535, 131071, 262143], 6144, (.h [0, 1, 2, 3, 4, 5, 6, 7, 8, 9, 10] (.o 11 (.h [12] (.o 13 (.o 14 (.h [15, 16, 17] (.o 18 .nil)))))))⟩), (28, ⟨[0, 1, 3, 7, 15, 31, 15, 79, 15, 271, 783, 1807, 3855, 7951, 16335, 32767, 65535], 0, (.h [0, 1, 2, 3, 4, 5, 6, 7, 8, 9, 10, 11, 12, 13, 14, 15, 16] .nil)⟩), (29, ⟨[0, 1, 3, 7, 0, 16, 48, 112, 240, 511], 256, (.h [0, 1, 2, 3, 4, 5, 6, 7] (.o 8 (.o 9 .nil)))⟩)]⟩
theorem fi32_ok : fnB fi32 = true := by decide +kernel
noncomputable def fi33 : FI := ⟨Tryz.f33, [(5, ⟨[0, 1, 3, 7, 0, 16, 48, 112, 0, 256, 768, 1792, 0, 4096, 0, 16384, 49152, 114688, 0, 262144, 786432, 1835008, 0, 4194304, 12582912, 29360128, 62926848, 0, 134217728, 402653184, 939524096, 2143301632, 0, 4294967296, 12884901888, 30064771072, 68715294720, 137438953471, 274877906943], 70934077440, (.h [0, 1, 2, 3, 4, 5, 6, 7, 8, 9, 10, 11, 12, 14, 15, 16, 17, 18, 19, 20, 21, 22, 23, 24, 25, 27, 28, 29, 30, 32, 33, 34, 35] (.o 13 (.o 26 (.o 31 (.o 36 (.h [37] (.o 38 .nil)))))))⟩)]⟩
theorem fi33_ok : fnB fi33 = true := by decide +kernel
noncomputable def fi34 : FI := ⟨Tryz.f34, []⟩
theorem fi34_ok : fnB fi34 = true := by decide +kernel
noncomputable def fi35 : FI := ⟨Tryz.f35, []⟩
theorem fi35_ok : fnB fi35 = true := by decide +kernel
noncomputable def fi36 : FI := ⟨Tryz.f36, []⟩
theorem fi36_ok : fnB fi36 = true := by decide +kernel
noncomputable def fi37 : FI := ⟨Tryz.f37, [(6, ⟨[0, 1, 3, 7, 15, 31, 63, 127, 255, 511, 63, 1087, 3135, 7231, 16383, 32767, 65535, 131071, 262143, 524287, 1048575], 0, (.h [0, 1, 2, 3, 4, 5, 6, 7, 8, 9, 10, 11, 12, 13, 14, 15, 16, 17] (.o 18 (.h [19, 20] .nil)))⟩), (11, ⟨[0, 1, 3, 7, 0, 16, 0, 64, 192, 448, 1008, 2047], 1056, (.h [0, 1, 2, 3, 4, 6, 7, 8, 9] (.o 5 (.o 10 (.o 11 .nil))))⟩)]⟩
theorem fi37_ok : fnB fi37 = true := by decide +kernel
noncomputable def fi38 : FI := ⟨Tryz.f38, []⟩
theorem fi38_ok : fnB fi38 = true := by decide +kernel
noncomputable def fi39 : FI := ⟨Tryz.f39, [(10, ⟨[0, 1, 0, 4, 12, 28, 60, 127], 64, (.h [0, 1, 2, 3, 4, 5] (.o 6 (.h [7] .nil)))⟩)]⟩
theorem fi39_ok : fnB fi39 = true := by decide +kernel
noncomputable def fi40 : FI := ⟨Tryz.f40, [(1, ⟨[0, 1, 3, 7, 15, 31, 63, 127, 255, 511, 1023, 511, 2559, 6655, 14847, 31231, 65535, 131071], 65024, (.h [0] (.o 1 (.h [2, 3, 4] (.o 5 (.h [6, 7, 8, 9, 10, 11, 12, 13, 14, 15, 16, 17] .nil)))))⟩)]⟩
theorem fi40_ok : fnB fi40 = true := by decide +kernel
noncomputable def fi41 : FI := ⟨Tryz.f41, []⟩
theorem fi41_ok : fnB fi41 = true := by decide +kernel
noncomputable def fi42 : FI := ⟨Tryz.f42, [(1, ⟨[0, 0, 2, 6, 14, 30, 0, 64, 0, 256, 0, 0, 4032, 8128, 16382, 32767, 65535, 131071, 262143], 0, (.h [0, 1, 2, 3, 4, 5, 6, 7, 8, 9, 10, 11, 12] (.o 13 (.o 14 (.h [15, 16, 17] (.o 18 .nil)))))⟩)]⟩
theorem fi42_ok : fnB fi42 = true := by decide +kernel
noncomputable def fi43 : FI := ⟨Tryz.f43, []⟩
theorem fi43_ok : fnB fi43 = true := by decide +kernel
noncomputable def fi44 : FI := ⟨Tryz.f44, [(6, ⟨[0, 1, 3, 7, 0, 0, 32, 96, 224, 511, 1023, 2047, 2047, 4095, 16383], 0, (.h [0, 1, 2, 3, 4, 5, 6, 7, 8] (.o 9 (.h [10, 11, 12, 13, 14] .nil)))⟩)]⟩
theorem fi44_ok : fnB fi44 = true := by decide +kernel
noncomputable def fi45 : FI := ⟨Tryz.f45, [(3, ⟨[0, 1, 3, 7, 15, 0, 32, 96, 224, 0, 512, 1536, 3584, 7711, 0, 16384, 49152, 114688, 261663, 0, 524288, 1572864, 3670016, 8388127, 0, 16777216, 50331648, 117440512, 268434975, 536870911, 1073741823, 2147483647], 277094416, (.h [0, 1, 2, 3, 5, 6, 7, 8, 9, 10, 11, 12, 14, 15, 16, 17, 19, 20, 21, 22, 24, 25, 26, 27] (.o 4 (.o 13 (.o 18 (.o 23 (.o 28 (.h [29] (.o 30 (.h [31] .nil)))))))))⟩)]⟩
theorem fi45_ok : fnB fi45 = true := by decide +kernel
noncomputable def fi46 : FI := ⟨Tryz.f46, []⟩
theorem fi46_ok : fnB fi46 = true := by decide +kernel
noncomputable def fi47 : FI := ⟨Tryz.f47, []⟩
theorem fi47_ok : fnB fi47 = true := by decide +kernel
noncomputable def fi48 : FI := ⟨Tryz.f48, [(13, ⟨[0, 1, 3, 7, 15, 0, 32, 127, 255, 511, 511, 0, 3071, 8191], 0, (.h [0, 1, 2, 3, 4, 5, 6] (.w 7 11 (.h [8, 9, 10] (.o 11 (.o 12 (.h [13] .nil)))) (.o 7 (.h [8, 9, 10] (.o 12 (.h [13] .nil))))))⟩), (15, ⟨[0, 1, 3, 7, 15, 0, 32, 127, 255], 0, (.h [0, 1, 2, 3, 4, 5, 6] (.o 7 (.h [8] .nil)))⟩)]⟩
theorem fi48_ok : fnB fi48 = true := by decide +kernel
noncomputable def fi49 : FI := ⟨Tryz.f49, []⟩
theorem fi49_ok : fnB fi49 = true := by decide +kernel
noncomputable def fi50 : FI := ⟨Tryz.f50, []⟩
theorem fi50_ok : fnB fi50 = true := by decide +kernel
noncomputable def fi51 : FI := ⟨Tryz.f51, [(1, ⟨[0, 1, 3, 7, 0, 16, 48, 112, 240, 511, 1023, 2047, 2047, 4095, 16383], 256, (.h [0, 1, 2, 3, 4, 5, 6, 7] (.o 8 (.o 9 (.h [10, 11, 12, 13, 14] .nil))))⟩)]⟩
theorem fi51_ok : fnB fi51 = true := by decide +kernel
noncomputable def fi52 : FI := ⟨Tryz.f52, []⟩
theorem fi52_ok : fnB fi52 = true := by decide +kernel
noncomputable def fi53 : FI := ⟨Tryz.f53, []⟩
theorem fi53_ok : fnB fi53 = true := by decide +kernel
noncomputable def fi54 : FI := ⟨Tryz.f54, []⟩
theorem fi54_ok : fnB fi54 = true := by decide +kernel
noncomputable def fi55 : FI := ⟨Tryz.f55, []⟩
theorem fi55_ok : fnB fi55 = true := by decide +kernel
noncomputable def fi56 : FI := ⟨Tryz.f56, []⟩
theorem fi56_ok : fnB fi56 = true := by decide +kernel
noncomputable def fi57 : FI := ⟨Tryz.f57, []⟩
theorem fi57_ok : fnB fi57 = true := by decide +kernel
noncomputable def fi58 : FI := ⟨Tryz.f58, []⟩
theorem fi58_ok : fnB fi58 = true := by decide +kernel
noncomputable def fi59 : FI := ⟨Tryz.f59, []⟩
theorem fi59_ok : fnB fi59 = true := by decide +kernel
noncomputable def fi60 : FI := ⟨Tryz.f60, []⟩
theorem fi60_ok : fnB fi60 = true := by decide +kernel
noncomputable def fi61 : FI := ⟨Tryz.f61, []⟩
theorem fi61_ok : fnB fi61 = true := by decide +kernel
noncomputable def fi62 : FI := ⟨Tryz.f62, []⟩
theorem fi62_ok : fnB fi62 = true := by decide +kernel
noncomputable def fi63 : FI := ⟨Tryz.f63, []⟩
theorem fi63_ok : fnB fi63 = true := by decide +kernel
noncomputable def fi64 : FI := ⟨Tryz.f64, []⟩
theorem fi64_ok : fnB fi64 = true := by decide +kernel
noncomputable def fi65 : FI := ⟨Tryz.f65, []⟩
theorem fi65_ok : fnB fi65 = true := by decide +kernel
noncomputable def fi66 : FI := ⟨Tryz.f66, []⟩
theorem fi66_ok : fnB fi66 = true := by decide +kernel
noncomputable def fi67 : FI := ⟨Tryz.f67, []⟩
theorem fi67_ok : fnB fi67 = true := by decide +kernel
noncomputable def fi68 : FI := ⟨Tryz.f68, []⟩
theorem fi68_ok : fnB fi68 = true := by decide +kernel
noncomputable def fi69 : FI := ⟨Tryz.f69, [(6, ⟨[0, 1, 0, 0, 0, 16, 48, 124, 252, 511, 1023, 2047], 224, (.h [0, 1, 2, 3, 4] (.o 5 (.h [6, 7] (.o 8 (.o 9 (.h [10] (.o 11 .nil)))))))⟩)]⟩
theorem fi69_ok : fnB fi69 = true := by decide +kernel
noncomputable def fi70 : FI := ⟨Tryz.f70, [(5, ⟨[0, 1, 0, 7, 15, 0, 63], 2, (.h [0, 2] (.w 1 5 (.w 3 5 (.h [4] (.o 5 (.o 6 .nil))) (.o 3 (.h [4] (.o 6 .nil)))) (.o 1 (.o 3 (.h [4] (.o 6 .nil))))))⟩)]⟩
theorem fi70_ok : fnB fi70 = true := by decide +kernel
noncomputable def fi71 : FI := ⟨Tryz.f71, []⟩
theorem fi71_ok : fnB fi71 = true := by decide +kernel
noncomputable def fi72 : FI := ⟨Tryz.f72, []⟩
theorem fi72_ok : fnB fi72 = true := by decide +kernel
noncomputable def fi73 : FI := ⟨Tryz.f73, [(7, ⟨[0, 1, 3, 0, 8, 0, 0, 0, 0, 256, 775, 2047, 4095, 8191], 1028, (.h [0, 1, 3, 4, 6, 7, 8, 9] (.w 2 5 (.w 5 10 (.o 10 (.h [11] (.o 12 (.h [13] .nil)))) (.o 5 (.h [11] (.o 12 (.h [13] .nil))))) (.o 2 (.o 10 (.h [11] (.o 12 (.h [13] .nil)))))))⟩), (12, ⟨[0, 1, 3, 7, 15, 7, 39, 7, 135, 487, 999, 2023, 4095, 8191, 16383, 32767, 32767, 131071, 262143, 524287], 0, (.h [0, 1, 2, 3, 4, 5, 6, 7, 8, 9, 10, 11, 12, 13, 14, 15, 16] (.o 17 (.h [18, 19] .nil)))⟩), (14, ⟨[0, 1, 3, 7, 0, 16, 0, 127], 0, (.h [0, 1, 2, 3, 4, 5, 6] (.o 7 .nil))⟩)]⟩
theorem fi73_ok : fnB fi73 = true := by decide +kernel
noncomputable def fi74 : FI := ⟨Tryz.f74, []⟩
theorem fi74_ok : fnB fi74 = true := by decide +kernel
noncomputable def fi75 : FI := ⟨Tryz.f75, [(1, ⟨[0, 1, 3, 7, 0, 16, 48, 112, 240, 511, 1023, 2047, 4095, 8191, 16383, 2047, 34815, 100351, 231423, 524287, 1048575, 2097151], 522240, (.h [0, 1, 2, 3, 4, 5, 6, 7, 8] (.o 9 (.h [10, 11, 12, 13, 14, 15, 16, 17, 18, 19, 20, 21] .nil)))⟩)]⟩
theorem fi75_ok : fnB fi75 = true := by decide +kernel
noncomputable def fi76 : FI := ⟨Tryz.f76, [(7, ⟨[0, 0, 0, 4, 12, 0, 32, 96, 224, 492, 0, 2028, 4092, 8191], 2584, (.h [0, 1, 2, 5, 6, 7, 8, 10] (.o 3 (.h [4] (.o 9 (.o 11 (.h [12] (.o 13 .nil)))))))⟩)]⟩
theorem fi76_ok : fnB fi76 = true := by decide +kernel
noncomputable def fi77 : FI := ⟨Tryz.f77, []⟩
theorem fi77_ok : fnB fi77 = true := by decide +kernel
noncomputable def fi78 : FI := ⟨Tryz.f78, [(1, ⟨[0, 0, 2, 6, 14, 0, 32, 96, 224, 480, 1022, 2047, 4095, 8191], 512, (.h [0, 1, 2, 3, 4, 5, 6, 7, 8] (.o 9 (.o 10 (.h [11, 12] (.o 13 .nil)))))⟩)]⟩
theorem fi78_ok : fnB fi78 = true := by decide +kernel
noncomputable def fi79 : FI := ⟨Tryz.f79, []⟩
theorem fi79_ok : fnB fi79 = true := by decide +kernel
noncomputable def fi80 : FI := ⟨Tryz.f80, []⟩
theorem fi80_ok : fnB fi80 = true := by decide +kernel
noncomputable def fi81 : FI := ⟨Tryz.f81, []⟩
theorem fi81_ok : fnB fi81 = true := by decide +kernel
noncomputable def fi82 : FI := ⟨Tryz.f82, []⟩
theorem fi82_ok : fnB fi82 = true := by decide +kernel
noncomputable def fi83 : FI := ⟨Tryz.f83, [(3, ⟨[0, 1, 3, 7, 0, 16, 63, 127], 0, (.h [0, 1, 2, 3, 4, 5] (.o 6 (.o 7 .nil)))⟩), (4, ⟨[0, 0, 2, 6, 14, 30, 0, 64, 0, 256, 960, 1984, 4094, 8191, 16383, 32767, 65535], 0, (.h [0, 1, 2, 3, 4, 5, 6, 7, 8, 9, 10] (.o 11 (.o 12 (.h [13, 14, 15] (.o 16 .nil)))))⟩), (6, ⟨[0, 0, 2, 6, 14, 30, 0, 64, 192, 510, 1023, 2047, 4095, 8191], 0, (.h [0, 1, 2, 3, 4, 5, 6, 7] (.o 8 (.o 9 (.h [10, 11, 12] (.o 13 .nil)))))⟩)]⟩
theorem fi83_ok : fnB fi83 = true := by decide +kernel
noncomputable def fi84 : FI := ⟨Tryz.f84, [(5, ⟨[0, 0, 2, 6, 14, 0, 0, 126, 0, 256, 768, 1792, 0, 4096, 16128, 32766, 65535, 131071, 262143], 0, (.h [0, 1, 2, 3, 4, 5, 6, 7, 8, 9, 10, 11, 12, 13, 14] (.o 15 (.h [16, 17] (.o 18 .nil))))⟩)]⟩
theorem fi84_ok : fnB fi84 = true := by decide +kernel
noncomputable def fi85 : FI := ⟨Tryz.f85, []⟩
theorem fi85_ok : fnB fi85 = true := by decide +kernel
noncomputable def fi86 : FI := ⟨Tryz.f86, []⟩
theorem fi86_ok : fnB fi86 = true := by decide +kernel
noncomputable def fi87 : FI := ⟨Tryz.f87, []⟩
theorem fi87_ok : fnB fi87 = true := by decide +kernel
noncomputable def fi88 : FI := ⟨Tryz.f88, [(6, ⟨[0, 1, 3, 7, 0, 16, 48, 112, 240, 511, 1023], 256, (.h [0, 1, 2, 3, 4, 5, 6, 7] (.o 8 (.h [9, 10] .nil)))⟩), (8, ⟨[0, 1, 3, 7, 0, 16, 48, 112, 255, 511, 1023, 1023, 2047, 8191], 0, (.h [0, 1, 2, 3, 4, 5, 6, 7] (.o 8 (.h [9, 10, 11, 12, 13] .nil)))⟩), (10, ⟨[0, 0, 2, 6, 14, 0, 32, 96, 224, 0, 0, 0, 4064, 8190, 16383, 32767], 0, (.h [0, 1, 2, 3, 4, 5, 6, 7, 8, 9, 10, 11, 12] (.o 13 (.o 14 (.h [15] .nil))))⟩)]⟩
theorem fi88_ok : fnB fi88 = true := by decide +kernel
noncomputable def fi89 : FI := ⟨Tryz.f89, []⟩
theorem fi89_ok : fnB fi89 = true := by decide +kernel
noncomputable def fi90 : FI := ⟨Tryz.f90, []⟩
theorem fi90_ok : fnB fi90 = true := by decide +kernel
noncomputable def fi91 : FI := ⟨Tryz.f91, []⟩
theorem fi91_ok : fnB fi91 = true := by decide +kernel
noncomputable def fi92 : FI := ⟨Tryz.f92, []⟩
theorem fi92_ok : fnB fi92 = true := by decide +kernel
noncomputable def fi93 : FI := ⟨Tryz.f93, [(3, ⟨[0, 1, 3, 7, 0, 16, 63, 127], 32, (.h [0, 1, 2, 3, 4] (.o 5 (.o 6 (.h [7] .nil))))⟩)]⟩
theorem fi93_ok : fnB fi93 = true := by decide +kernel
noncomputable def fi94 : FI := ⟨Tryz.f94, []⟩
theorem fi94_ok : fnB fi94 = true := by decide +kernel
noncomputable def fi95 : FI := ⟨Tryz.f95, []⟩
theorem fi95_ok : fnB fi95 = true := by decide +kernel
noncomputable def fi96 : FI := ⟨Tryz.f96, []⟩
theorem fi96_ok : fnB fi96 = true := by decide +kernel
noncomputable def fi97 : FI := ⟨Tryz.f97, []⟩
theorem fi97_ok : fnB fi97 = true := by decide +kernel
noncomputable def fi98 : FI := ⟨Tryz.f98, [(1, ⟨[0, 1, 3, 7, 0, 16, 48, 112, 255, 511, 1023, 1023, 2047, 8191], 0, (.h [0, 1, 2, 3, 4, 5, 6, 7] (.o 8 (.h [9, 10, 11, 12, 13] .nil)))⟩)]⟩
theorem fi98_ok : fnB fi98 = true := by decide +kernel
noncomputable def fi99 : FI := ⟨Tryz.f99, [(1, ⟨[0, 1, 3, 7, 15, 0, 32, 96, 224, 511, 1023, 2047, 4095], 16, (.h [0, 1, 2, 3, 5, 6, 7, 8] (.o 4 (.o 9 (.h [10, 11, 12] .nil))))⟩)]⟩
theorem fi99_ok : fnB fi99 = true := by decide +kernel
noncomputable def fi100 : FI := ⟨Tryz.f100, []⟩
theorem fi100_ok : fnB fi100 = true := by decide +kernel
noncomputable def fi101 : FI := ⟨Tryz.f101, []⟩
theorem fi101_ok : fnB fi101 = true := by decide +kernel
noncomputable def fi102 : FI := ⟨Tryz.f102, []⟩
theorem fi102_ok : fnB fi102 = true := by decide +kernel
noncomputable def fi103 : FI := ⟨Tryz.f103, []⟩
theorem fi103_ok : fnB fi103 = true := by decide +kernel
noncomputable def fi104 : FI := ⟨Tryz.f104, []⟩
theorem fi104_ok : fnB fi104 = true := by decide +kernel
noncomputable def fi105 : FI := ⟨Tryz.f105, []⟩
theorem fi105_ok : fnB fi105 = true := by decide +kernel
noncomputable def fi106 : FI := ⟨Tryz.f106, [(1, ⟨[0, 1, 3, 7, 15, 0, 0, 64, 0, 256, 960, 223, 3039, 7167, 15359, 32767, 65535], 30208, (.h [0, 1, 2, 3, 4, 5, 6, 7, 8, 11] (.o 9 (.h [10] (.o 12 (.h [13] (.o 14 (.h [15] (.o 16 .nil))))))))⟩), (2, ⟨[0, 0, 2, 6, 14, 0, 32, 126, 255, 511, 1023], 0, (.h [0, 1, 2, 3, 4, 5] (.o 6 (.o 7 (.h [8, 9] (.o 10 .nil)))))⟩)]⟩
theorem fi106_ok : fnB fi106 = true := by decide +kernel
noncomputable def fi107 : FI := ⟨Tryz.f107, [(4, ⟨[0, 0, 0, 4, 12, 28, 60, 0, 252, 511], 64, (.h [0, 1, 2, 3, 4, 5, 7] (.o 6 (.h [8] (.o 9 .nil))))⟩), (6, ⟨[0, 0, 0, 0, 0, 16, 48, 112, 0, 256, 768, 1792, 3840, 0, 8192, 24576, 57344, 0, 131072, 524032, 1048572, 2097151], 528384, (.h [0, 1, 2, 3, 4, 5, 6, 7, 8, 9, 10, 11, 13, 14, 15, 16, 17, 18] (.o 12 (.o 19 (.h [20] (.o 21 .nil)))))⟩)]⟩
theorem fi107_ok : fnB fi107 = true := by decide +kernel
noncomputable def fi108 : FI := ⟨Tryz.f108, []⟩
theorem fi108_ok : fnB fi108 = true := by decide +kernel
noncomputable def fi109 : FI := ⟨Tryz.f109, []⟩
theorem fi109_ok : fnB fi109 = true := by decide +kernel
noncomputable def fi110 : FI := ⟨Tryz.f110, []⟩
theorem fi110_ok : fnB fi110 = true := by decide +kernel
noncomputable def fi111 : FI := ⟨Tryz.f111, [(10, ⟨[0, 0, 2, 6, 14, 0, 32, 96, 254, 511, 1023], 0, (.h [0, 1, 2, 3, 4, 5, 6, 7] (.o 8 (.o 9 (.h [10] .nil))))⟩)]⟩
theorem fi111_ok : fnB fi111 = true := by decide +kernel
end Go.Proofs.YtkbpafbbogjifaaGreat
