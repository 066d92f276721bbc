/- A runner's tables: functions. -/
import Derived.Test.YtkbpafbbogjifaaGreatBc
import Derived.Test.YtkbpafbbogjifaaGreatProg
namespace Go.Proofs.YtkbpafbbogjifaaGreat
open Go Go.Proofs.Rn
noncomputable def fi333 : FI := ⟨Tryz.f333, [(3, ⟨[0, 1, 3, 7, 0, 16, 48, 112, 240, 496, 1023, 2047], 0, (.h [0, 1, 2, 3, 4, 5, 6, 7, 8, 9, 10, 11] .nil)⟩)]⟩
theorem fi333_ok : fnB fi333 = true := by decide +kernel
noncomputable def fi334 : FI := ⟨Tryz.f334, []⟩
theorem fi334_ok : fnB fi334 = true := by decide +kernel
noncomputable def fi335 : FI := ⟨Tryz.f335, []⟩
theorem fi335_ok : fnB fi335 = true := by decide +kernel
noncomputable def fi336 : FI := ⟨Tryz.f336, []⟩
theorem fi336_ok : fnB fi336 = true := by decide +kernel
noncomputable def fi337 : FI := ⟨Tryz.f337, []⟩
theorem fi337_ok : fnB fi337 = true := by decide +kernel
noncomputable def fi338 : FI := ⟨Tryz.f338, []⟩
theorem fi338_ok : fnB fi338 = true := by decide +kernel
noncomputable def fi339 : FI := ⟨Tryz.f339, []⟩
theorem fi339_ok : fnB fi339 = true := by decide +kernel
noncomputable def fi340 : FI := ⟨Tryz.f340, []⟩
theorem fi340_ok : fnB fi340 = true := by decide +kernel
noncomputable def fi341 : FI := ⟨Tryz.f341, []⟩
theorem fi341_ok : fnB fi341 = true := by decide +kernel
noncomputable def fi342 : FI := ⟨Tryz.f342, []⟩
theorem fi342_ok : fnB fi342 = true := by decide +kernel
noncomputable def fi343 : FI := ⟨Tryz.f343, []⟩
theorem fi343_ok : fnB fi343 = true := by decide +kernel
noncomputable def fi344 : FI := ⟨Tryz.f344, []⟩
theorem fi344_ok : fnB fi344 = true := by decide +kernel
noncomputable def fi345 : FI := ⟨Tryz.f345, [(1, ⟨[0, 1, 0, 4, 15, 0, 32, 0, 128, 511, 1023, 2047, 4095], 16, (.h [0, 1, 2, 3, 5, 6, 7, 8] (.o 4 (.o 9 (.o 10 (.o 11 (.h [12] .nil))))))⟩)]⟩
theorem fi345_ok : fnB fi345 = true := by decide +kernel
noncomputable def fi346 : FI := ⟨Tryz.f346, []⟩
theorem fi346_ok : fnB fi346 = true := by decide +kernel
noncomputable def fi347 : FI := ⟨Tryz.f347, []⟩
theorem fi347_ok : fnB fi347 = true := by decide +kernel
noncomputable def fi348 : FI := ⟨Tryz.f348, []⟩
theorem fi348_ok : fnB fi348 = true := by decide +kernel
noncomputable def fi349 : FI := ⟨Tryz.f349, []⟩
theorem fi349_ok : fnB fi349 = true := by decide +kernel
noncomputable def fi350 : FI := ⟨Tryz.f350, [(3, ⟨[0, 1, 3, 7, 15, 31, 63, 0, 128, 0, 1023], 0, (.h [0, 1, 2, 3, 4, 5, 6, 7, 8, 9] (.o 10 .nil))⟩), (4, ⟨[0, 0, 1, 5, 15, 31, 0, 0, 255], 0, (.h [0, 1, 2, 3, 4, 5, 6, 7] (.o 8 .nil))⟩)]⟩
theorem fi350_ok : fnB fi350 = true := by decide +kernel
noncomputable def fi351 : FI := ⟨Tryz.f351, []⟩
theorem fi351_ok : fnB fi351 = true := by decide +kernel
noncomputable def fi352 : FI := ⟨Tryz.f352, [(4, ⟨[0, 1, 3, 7, 0, 16, 63, 127, 255, 511, 1023], 0, (.h [0, 1, 2, 3, 4, 5, 6, 7] (.o 8 (.h [9, 10] .nil)))⟩)]⟩
theorem fi352_ok : fnB fi352 = true := by decide +kernel
noncomputable def fi353 : FI := ⟨Tryz.f353, []⟩
theorem fi353_ok : fnB fi353 = true := by decide +kernel
noncomputable def fi354 : FI := ⟨Tryz.f354, []⟩
theorem fi354_ok : fnB fi354 = true := by decide +kernel
noncomputable def fi355 : FI := ⟨Tryz.f355, [(3, ⟨[0, 1, 3, 7, 15, 0, 32, 96, 224, 480, 1023, 2047, 4095], 16, (.h [0, 1, 2, 3, 5, 6, 7, 8, 9] (.o 4 (.h [10, 11, 12] .nil)))⟩)]⟩
theorem fi355_ok : fnB fi355 = true := by decide +kernel
noncomputable def fi356 : FI := ⟨Tryz.f356, []⟩
theorem fi356_ok : fnB fi356 = true := by decide +kernel
noncomputable def fi357 : FI := ⟨Tryz.f357, [(1, ⟨[0, 1, 3, 7, 0, 0, 32, 96, 224, 496, 0, 0, 2048, 6144, 14336, 31744, 65535, 131071], 0, (.h [0, 1, 2, 3, 4, 5, 6, 7, 8, 9, 10, 11, 12, 13, 14, 15] (.o 16 (.h [17] .nil)))⟩)]⟩
theorem fi357_ok : fnB fi357 = true := by decide +kernel
noncomputable def fi358 : FI := ⟨Tryz.f358, [(12, ⟨[0, 0, 3, 7, 0, 16, 48, 112, 0, 256, 1008, 2032, 4080, 8191, 0, 32767, 0, 65536, 196608, 458752, 983040, 0, 2097152, 8323072, 16711680, 33554431, 67108863], 26214400, (.h [0, 1, 2, 3, 4, 5, 6, 7, 8, 9, 10, 11, 12, 13, 14, 15, 16, 17, 18, 19, 21, 22] (.o 20 (.h [23, 24, 25, 26] .nil)))⟩)]⟩
theorem fi358_ok : fnB fi358 = true := by decide +kernel
noncomputable def fi359 : FI := ⟨Tryz.f359, [(6, ⟨[0, 0, 2, 7, 0, 16, 48, 112, 246, 0, 1014, 2038, 4095, 8191], 3340, (.h [0, 1, 4, 5, 6, 7, 9] (.o 2 (.h [3] (.o 8 (.h [10, 11, 12, 13] .nil)))))⟩)]⟩
theorem fi359_ok : fnB fi359 = true := by decide +kernel
noncomputable def fi360 : FI := ⟨Tryz.f360, []⟩
theorem fi360_ok : fnB fi360 = true := by decide +kernel
noncomputable def fi361 : FI := ⟨Tryz.f361, []⟩
theorem fi361_ok : fnB fi361 = true := by decide +kernel
noncomputable def fi362 : FI := ⟨Tryz.f362, []⟩
theorem fi362_ok : fnB fi362 = true := by decide +kernel
noncomputable def fi363 : FI := ⟨Tryz.f363, []⟩
theorem fi363_ok : fnB fi363 = true := by decide +kernel
noncomputable def fi364 : FI := ⟨Tryz.f364, []⟩
theorem fi364_ok : fnB fi364 = true := by decide +kernel
noncomputable def fi365 : FI := ⟨Tryz.f365, []⟩
theorem fi365_ok : fnB fi365 = true := by decide +kernel
noncomputable def fi366 : FI := ⟨Tryz.f366, []⟩
theorem fi366_ok : fnB fi366 = true := by decide +kernel
noncomputable def fi367 : FI := ⟨Tryz.f367, []⟩
theorem fi367_ok : fnB fi367 = true := by decide +kernel
noncomputable def fi368 : FI := ⟨Tryz.f368, [(1, ⟨[0, 1, 3, 7, 0, 16, 63, 127, 255, 255, 0, 1535, 4095], 0, (.h [0, 1, 2, 3, 4, 5, 6, 7, 8, 9] (.o 10 (.o 11 (.h [12] .nil))))⟩), (9, ⟨[0, 1, 0, 4, 0, 0, 0, 64, 255, 511, 1023, 1023, 0, 6143, 16383], 128, (.h [0, 1, 2, 3, 4, 5, 6] (.w 7 12 (.w 8 12 (.h [9, 10, 11] (.o 12 (.o 13 (.h [14] .nil)))) (.o 8 (.h [9, 10, 11] (.o 13 (.h [14] .nil))))) (.o 7 (.o 8 (.h [9, 10, 11] (.o 13 (.h [14] .nil)))))))⟩)]⟩
theorem fi368_ok : fnB fi368 = true := by decide +kernel
noncomputable def fi369 : FI := ⟨Tryz.f369, []⟩
theorem fi369_ok : fnB fi369 = true := by decide +kernel
noncomputable def fi370 : FI := ⟨Tryz.f370, [(12, ⟨[0, 1, 3, 7, 0, 0, 63, 127], 0, (.h [0, 1, 2, 3, 4, 5, 6] (.o 7 .nil))⟩)]⟩
theorem fi370_ok : fnB fi370 = true := by decide +kernel
noncomputable def fi371 : FI := ⟨Tryz.f371, []⟩
theorem fi371_ok : fnB fi371 = true := by decide +kernel
noncomputable def fi372 : FI := ⟨Tryz.f372, []⟩
theorem fi372_ok : fnB fi372 = true := by decide +kernel
noncomputable def fi373 : FI := ⟨Tryz.f373, [(1, ⟨[0, 1, 3, 7, 0, 16, 63, 127, 255, 255, 0, 1535, 4095], 0, (.h [0, 1, 2, 3, 4, 5, 6, 7, 8, 9] (.o 10 (.o 11 (.h [12] .nil))))⟩)]⟩
theorem fi373_ok : fnB fi373 = true := by decide +kernel
noncomputable def fi374 : FI := ⟨Tryz.f374, []⟩
theorem fi374_ok : fnB fi374 = true := by decide +kernel
noncomputable def fi375 : FI := ⟨Tryz.f375, [(1, ⟨[0, 1, 3, 7, 0, 31, 63], 0, (.h [0, 1, 2, 3, 4] (.o 5 (.h [6] .nil)))⟩)]⟩
theorem fi375_ok : fnB fi375 = true := by decide +kernel
noncomputable def fi376 : FI := ⟨Tryz.f376, [(11, ⟨[0, 1, 3, 7, 0, 0, 63], 0, (.h [0, 1, 2, 3, 4, 5] (.o 6 .nil))⟩)]⟩
theorem fi376_ok : fnB fi376 = true := by decide +kernel
noncomputable def fi377 : FI := ⟨Tryz.f377, []⟩
theorem fi377_ok : fnB fi377 = true := by decide +kernel
noncomputable def fi378 : FI := ⟨Tryz.f378, []⟩
theorem fi378_ok : fnB fi378 = true := by decide +kernel
noncomputable def fi379 : FI := ⟨Tryz.f379, [(10, ⟨[0, 1, 3, 7, 0, 0, 63], 0, (.h [0, 1, 2, 3, 4, 5] (.o 6 .nil))⟩)]⟩
theorem fi379_ok : fnB fi379 = true := by decide +kernel
noncomputable def fi380 : FI := ⟨Tryz.f380, []⟩
theorem fi380_ok : fnB fi380 = true := by decide +kernel
noncomputable def fi381 : FI := ⟨Tryz.f381, [(3, ⟨[0, 1, 3, 7, 0, 16, 48, 112, 240, 511, 1023], 256, (.h [0, 1, 2, 3, 4, 5, 6, 7] (.o 8 (.h [9] (.o 10 .nil))))⟩)]⟩
theorem fi381_ok : fnB fi381 = true := by decide +kernel
noncomputable def fi382 : FI := ⟨Tryz.f382, []⟩
theorem fi382_ok : fnB fi382 = true := by decide +kernel
noncomputable def fi383 : FI := ⟨Tryz.f383, []⟩
theorem fi383_ok : fnB fi383 = true := by decide +kernel
noncomputable def fi384 : FI := ⟨Tryz.f384, []⟩
theorem fi384_ok : fnB fi384 = true := by decide +kernel
noncomputable def fi385 : FI := ⟨Tryz.f385, []⟩
theorem fi385_ok : fnB fi385 = true := by decide +kernel
noncomputable def fi386 : FI := ⟨Tryz.f386, []⟩
theorem fi386_ok : fnB fi386 = true := by decide +kernel
noncomputable def fi387 : FI := ⟨Tryz.f387, []⟩
theorem fi387_ok : fnB fi387 = true := by decide +kernel
noncomputable def fi388 : FI := ⟨Tryz.f388, [(18, ⟨[0, 1, 3, 7, 0, 16, 48, 112, 0, 511, 1023], 128, (.h [0, 1, 2, 3, 4, 5, 6, 8] (.o 7 (.o 9 (.h [10] .nil))))⟩), (22, ⟨[0, 0, 2, 6, 14, 0, 32, 96, 224, 510, 1023, 2047, 4095], 0, (.h [0, 1, 2, 3, 4, 5, 6, 7] (.o 8 (.o 9 (.h [10, 11] (.o 12 .nil)))))⟩), (24, ⟨[0, 0, 0, 4, 12, 28, 0, 64, 252, 0, 512, 1536, 3584, 0, 8192, 32256, 8189, 73725, 204797, 524287, 1048575, 2097151], 0, (.h [0, 1, 2, 3, 4, 5, 6, 7, 8, 9, 10, 11, 12, 13, 14, 15, 16, 17] (.o 18 (.h [19, 20] (.o 21 .nil))))⟩), (25, ⟨[0, 0, 2, 6, 14, 0, 32, 126, 255, 511, 1023], 64, (.h [0, 1, 2, 3, 4, 5] (.o 6 (.o 7 (.h [8, 9] (.o 10 .nil)))))⟩)]⟩
theorem fi388_ok : fnB fi388 = true := by decide +kernel
noncomputable def fi389 : FI := ⟨Tryz.f389, [(3, ⟨[0, 1, 3, 7, 0, 16, 48, 112, 240, 511, 1023], 0, (.h [0, 1, 2, 3, 4, 5, 6, 7, 8, 9, 10] .nil)⟩), (5, ⟨[0, 1, 3, 7, 0, 16, 48, 112, 240, 511, 1023], 480, (.h [0, 1, 2, 3, 4] (.o 5 (.h [6, 7] (.o 8 (.o 9 (.h [10] .nil))))))⟩)]⟩
theorem fi389_ok : fnB fi389 = true := by decide +kernel
noncomputable def fi390 : FI := ⟨Tryz.f390, []⟩
theorem fi390_ok : fnB fi390 = true := by decide +kernel
noncomputable def fi391 : FI := ⟨Tryz.f391, []⟩
theorem fi391_ok : fnB fi391 = true := by decide +kernel
noncomputable def fi392 : FI := ⟨Tryz.f392, []⟩
theorem fi392_ok : fnB fi392 = true := by decide +kernel
noncomputable def fi393 : FI := ⟨Tryz.f393, []⟩
theorem fi393_ok : fnB fi393 = true := by decide +kernel
noncomputable def fi394 : FI := ⟨Tryz.f394, []⟩
theorem fi394_ok : fnB fi394 = true := by decide +kernel
noncomputable def fi395 : FI := ⟨Tryz.f395, []⟩
theorem fi395_ok : fnB fi395 = true := by decide +kernel
noncomputable def fi396 : FI := ⟨Tryz.f396, []⟩
theorem fi396_ok : fnB fi396 = true := by decide +kernel
noncomputable def fi397 : FI := ⟨Tryz.f397, []⟩
theorem fi397_ok : fnB fi397 = true := by decide +kernel
noncomputable def fi398 : FI := ⟨Tryz.f398, [(6, ⟨[0, 0, 3, 7, 0, 0, 48, 112, 255], 0, (.h [0, 1, 2, 3, 4, 5, 6, 7, 8] .nil)⟩)]⟩
theorem fi398_ok : fnB fi398 = true := by decide +kernel
noncomputable def fi399 : FI := ⟨Tryz.f399, []⟩
theorem fi399_ok : fnB fi399 = true := by decide +kernel
noncomputable def fi400 : FI := ⟨Tryz.f400, []⟩
theorem fi400_ok : fnB fi400 = true := by decide +kernel
noncomputable def fi401 : FI := ⟨Tryz.f401, []⟩
theorem fi401_ok : fnB fi401 = true := by decide +kernel
noncomputable def fi402 : FI := ⟨Tryz.f402, []⟩
theorem fi402_ok : fnB fi402 = true := by decide +kernel
noncomputable def fi403 : FI := ⟨Tryz.f403, []⟩
theorem fi403_ok : fnB fi403 = true := by decide +kernel
noncomputable def fi404 : FI := ⟨Tryz.f404, []⟩
theorem fi404_ok : fnB fi404 = true := by decide +kernel
noncomputable def fi405 : FI := ⟨Tryz.f405, []⟩
theorem fi405_ok : fnB fi405 = true := by decide +kernel
noncomputable def fi406 : FI := ⟨Tryz.f406, []⟩
theorem fi406_ok : fnB fi406 = true := by decide +kernel
noncomputable def fi407 : FI := ⟨Tryz.f407, [(6, ⟨[0, 1, 0, 7, 15, 0, 32, 0, 224, 480, 1023], 0, (.h [0, 1, 2, 3, 4, 5, 6, 7, 8, 9, 10] .nil)⟩)]⟩
theorem fi407_ok : fnB fi407 = true := by decide +kernel
noncomputable def fi408 : FI := ⟨Tryz.f408, []⟩
theorem fi408_ok : fnB fi408 = true := by decide +kernel
noncomputable def fi409 : FI := ⟨Tryz.f409, [(6, ⟨[0, 0, 3, 7, 15, 31, 63, 127, 255, 511, 1023, 1023, 4095, 8191, 16383, 1023, 1023, 66559, 230399, 492543, 1016831, 2097151, 4194303, 8388607], 2096128, (.h [0, 1, 2, 3] (.o 4 (.h [5, 6, 7, 8, 9, 10, 11, 12, 13, 14, 15, 16, 17, 18, 19, 20, 21, 22, 23] .nil)))⟩)]⟩
theorem fi409_ok : fnB fi409 = true := by decide +kernel
noncomputable def fi410 : FI := ⟨Tryz.f410, []⟩
theorem fi410_ok : fnB fi410 = true := by decide +kernel
noncomputable def fi411 : FI := ⟨Tryz.f411, []⟩
theorem fi411_ok : fnB fi411 = true := by decide +kernel
noncomputable def fi412 : FI := ⟨Tryz.f412, []⟩
theorem fi412_ok : fnB fi412 = true := by decide +kernel
noncomputable def fi413 : FI := ⟨Tryz.f413, []⟩
theorem fi413_ok : fnB fi413 = true := by decide +kernel
noncomputable def fi414 : FI := ⟨Tryz.f414, []⟩
theorem fi414_ok : fnB fi414 = true := by decide +kernel
noncomputable def fi415 : FI := ⟨Tryz.f415, []⟩
theorem fi415_ok : fnB fi415 = true := by decide +kernel
noncomputable def fi416 : FI := ⟨Tryz.f416, []⟩
theorem fi416_ok : fnB fi416 = true := by decide +kernel
noncomputable def fi417 : FI := ⟨Tryz.f417, [(11, ⟨[0, 0, 0, 1, 11, 31], 24, (.h [0, 1, 2] (.o 3 (.o 4 (.o 5 .nil))))⟩)]⟩
theorem fi417_ok : fnB fi417 = true := by decide +kernel
noncomputable def fi418 : FI := ⟨Tryz.f418, []⟩
theorem fi418_ok : fnB fi418 = true := by decide +kernel
noncomputable def fi419 : FI := ⟨Tryz.f419, []⟩
theorem fi419_ok : fnB fi419 = true := by decide +kernel
noncomputable def fi420 : FI := ⟨Tryz.f420, []⟩
theorem fi420_ok : fnB fi420 = true := by decide +kernel
noncomputable def fi421 : FI := ⟨Tryz.f421, []⟩
theorem fi421_ok : fnB fi421 = true := by decide +kernel
noncomputable def fi422 : FI := ⟨Tryz.f422, [(5, ⟨[0, 0, 0, 6, 14, 0, 32, 126, 0, 256, 1022, 2046, 4095, 8191], 0, (.h [0, 1, 2, 3, 4, 5, 6, 7, 8, 9, 10] (.o 11 (.o 12 (.h [13] .nil))))⟩)]⟩
theorem fi422_ok : fnB fi422 = true := by decide +kernel
noncomputable def fi423 : FI := ⟨Tryz.f423, []⟩
theorem fi423_ok : fnB fi423 = true := by decide +kernel
noncomputable def fi424 : FI := ⟨Tryz.f424, []⟩
theorem fi424_ok : fnB fi424 = true := by decide +kernel
noncomputable def fi425 : FI := ⟨Tryz.f425, []⟩
theorem fi425_ok : fnB fi425 = true := by decide +kernel
noncomputable def fi426 : FI := ⟨Tryz.f426, []⟩
theorem fi426_ok : fnB fi426 = true := by decide +kernel
noncomputable def fi427 : FI := ⟨Tryz.f427, []⟩
theorem fi427_ok : fnB fi427 = true := by decide +kernel
noncomputable def fi428 : FI := ⟨Tryz.f428, [(4, ⟨[0, 0, 2, 6, 14, 31, 63, 127, 127, 383, 895, 2047, 127, 4223, 12415, 28799, 127, 65663, 196735, 520319, 1048575, 2097151], 0, (.h [0, 1, 2, 3, 4, 5, 6, 7, 8, 9, 10, 11, 12, 13, 14, 15, 16, 17, 18, 19, 20, 21] .nil)⟩), (5, ⟨[0, 0, 0, 4, 14, 30, 5, 127], 0, (.h [0, 1, 2, 3, 4, 5] (.o 6 (.h [7] .nil)))⟩)]⟩
theorem fi428_ok : fnB fi428 = true := by decide +kernel
noncomputable def fi429 : FI := ⟨Tryz.f429, [(5, ⟨[0, 1, 3, 7, 0, 16, 63, 127, 255, 255, 511, 2047], 0, (.h [0, 1, 2, 3, 4, 5, 6, 7, 8, 9, 10, 11] .nil)⟩), (8, ⟨[0, 0, 0, 0, 4, 20, 60, 124, 0, 256, 1020, 1, 2049, 8191, 16383], 0, (.h [0, 1, 2, 3, 4, 5, 6, 7, 8, 11, 12] (.o 9 (.o 10 (.h [13] (.o 14 .nil)))))⟩), (9, ⟨[0, 1, 3, 7, 0, 16, 63, 127, 255, 511], 0, (.h [0, 1, 2, 3, 4, 5, 6, 7, 8] (.o 9 .nil))⟩), (10, ⟨[0, 1, 3, 7, 0, 16, 0, 127], 0, (.h [0, 1, 2, 3, 4, 5, 6] (.o 7 .nil))⟩)]⟩
theorem fi429_ok : fnB fi429 = true := by decide +kernel
noncomputable def fi430 : FI := ⟨Tryz.f430, []⟩
theorem fi430_ok : fnB fi430 = true := by decide +kernel
noncomputable def fi431 : FI := ⟨Tryz.f431, []⟩
theorem fi431_ok : fnB fi431 = true := by decide +kernel
noncomputable def fi432 : FI := ⟨Tryz.f432, []⟩
theorem fi432_ok : fnB fi432 = true := by decide +kernel
noncomputable def fi433 : FI := ⟨Tryz.f433, [(0, ⟨[0, 1, 0, 4, 3, 31], 0, (.h [0, 1, 2, 3, 4, 5] .nil)⟩)]⟩
theorem fi433_ok : fnB fi433 = true := by decide +kernel
noncomputable def fi434 : FI := ⟨Tryz.f434, []⟩
theorem fi434_ok : fnB fi434 = true := by decide +kernel
noncomputable def fi435 : FI := ⟨Tryz.f435, []⟩
theorem fi435_ok : fnB fi435 = true := by decide +kernel
noncomputable def fi436 : FI := ⟨Tryz.f436, []⟩
theorem fi436_ok : fnB fi436 = true := by decide +kernel
noncomputable def fi437 : FI := ⟨Tryz.f437, []⟩
theorem fi437_ok : fnB fi437 = true := by decide +kernel
noncomputable def fi438 : FI := ⟨Tryz.f438, []⟩
theorem fi438_ok : fnB fi438 = true := by decide +kernel
noncomputable def fi439 : FI := ⟨Tryz.f439, []⟩
theorem fi439_ok : fnB fi439 = true := by decide +kernel
noncomputable def fi440 : FI := ⟨Tryz.f440, []⟩
theorem fi440_ok : fnB fi440 = true := by decide +kernel
noncomputable def fi441 : FI := ⟨Tryz.f441, []⟩
theorem fi441_ok : fnB fi441 = true := by decide +kernel
noncomputable def fi442 : FI := ⟨Tryz.f442, []⟩
theorem fi442_ok : fnB fi442 = true := by decide +kernel
end Go.Proofs.YtkbpafbbogjifaaGreat
