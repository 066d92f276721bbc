/- A runner's tables: functions. -/
import Derived.Test.YtkbpafbbogjifaaGreatBc
import Derived.Test.YtkbpafbbogjifaaGreatProg
namespace Go.Proofs.YtkbpafbbogjifaaGreat
open Go Go.Proofs.Rn
noncomputable def fi443 : FI := ⟨Tryz.f443, [(1, ⟨[0, 1, 3, 7, 0, 16, 63], 0, (.h [0, 1, 2, 3, 4, 5] (.o 6 .nil))⟩), (3, ⟨[0, 1, 3, 7, 0, 16, 0, 64, 255, 511, 1023, 1023, 2047, 6143], 0, (.h [0, 1, 2, 3, 4, 5, 6, 7] (.o 8 (.h [9, 10, 11, 12] (.o 13 .nil))))⟩), (4, ⟨[0, 1, 3, 7, 0, 16, 0, 127], 0, (.h [0, 1, 2, 3, 4, 5, 6] (.o 7 .nil))⟩)]⟩
theorem fi443_ok : fnB fi443 = true := by decide +kernel
noncomputable def fi444 : FI := ⟨Tryz.f444, []⟩
theorem fi444_ok : fnB fi444 = true := by decide +kernel
noncomputable def fi445 : FI := ⟨Tryz.f445, []⟩
theorem fi445_ok : fnB fi445 = true := by decide +kernel
noncomputable def fi446 : FI := ⟨Tryz.f446, [(2, ⟨[0, 1, 3, 7, 0, 16, 63, 0, 255], 0, (.h [0, 1, 2, 3, 4, 5, 6] (.o 7 (.o 8 .nil)))⟩), (8, ⟨[0, 1, 3, 7, 0, 16, 0, 0, 128, 0, 896, 1920, 3968, 0, 8192, 0, 32768, 131056, 0, 524287, 1048575, 2097151, 2097151, 4194303, 16777215], 0, (.h [0, 1, 2, 3, 4, 5, 6, 7, 8, 9, 10, 11, 12, 13, 14, 15, 16, 17, 18] (.o 19 (.h [20, 21, 22, 23, 24] .nil)))⟩)]⟩
theorem fi446_ok : fnB fi446 = true := by decide +kernel
noncomputable def fi447 : FI := ⟨Tryz.f447, []⟩
theorem fi447_ok : fnB fi447 = true := by decide +kernel
noncomputable def fi448 : FI := ⟨Tryz.f448, []⟩
theorem fi448_ok : fnB fi448 = true := by decide +kernel
noncomputable def fi449 : FI := ⟨Tryz.f449, []⟩
theorem fi449_ok : fnB fi449 = true := by decide +kernel
noncomputable def fi450 : FI := ⟨Tryz.f450, []⟩
theorem fi450_ok : fnB fi450 = true := by decide +kernel
noncomputable def fi451 : FI := ⟨Tryz.f451, []⟩
theorem fi451_ok : fnB fi451 = true := by decide +kernel
noncomputable def fi452 : FI := ⟨Tryz.f452, []⟩
theorem fi452_ok : fnB fi452 = true := by decide +kernel
noncomputable def fi453 : FI := ⟨Tryz.f453, []⟩
theorem fi453_ok : fnB fi453 = true := by decide +kernel
noncomputable def fi454 : FI := ⟨Tryz.f454, []⟩
theorem fi454_ok : fnB fi454 = true := by decide +kernel
noncomputable def fi455 : FI := ⟨Tryz.f455, []⟩
theorem fi455_ok : fnB fi455 = true := by decide +kernel
noncomputable def fi456 : FI := ⟨Tryz.f456, []⟩
theorem fi456_ok : fnB fi456 = true := by decide +kernel
noncomputable def fi457 : FI := ⟨Tryz.f457, []⟩
theorem fi457_ok : fnB fi457 = true := by decide +kernel
noncomputable def fi458 : FI := ⟨Tryz.f458, []⟩
theorem fi458_ok : fnB fi458 = true := by decide +kernel
noncomputable def fi459 : FI := ⟨Tryz.f459, []⟩
theorem fi459_ok : fnB fi459 = true := by decide +kernel
noncomputable def fi460 : FI := ⟨Tryz.f460, []⟩
theorem fi460_ok : fnB fi460 = true := by decide +kernel
noncomputable def fi461 : FI := ⟨Tryz.f461, []⟩
theorem fi461_ok : fnB fi461 = true := by decide +kernel
noncomputable def fi462 : FI := ⟨Tryz.f462, []⟩
theorem fi462_ok : fnB fi462 = true := by decide +kernel
noncomputable def fi463 : FI := ⟨Tryz.f463, []⟩
theorem fi463_ok : fnB fi463 = true := by decide +kernel
noncomputable def fi464 : FI := ⟨Tryz.f464, []⟩
theorem fi464_ok : fnB fi464 = true := by decide +kernel
noncomputable def fi465 : FI := ⟨Tryz.f465, [(15, ⟨[0, 1, 3, 7, 0, 16, 48, 112, 255, 511, 1023], 0, (.h [0, 1, 2, 3, 4, 5, 6, 7, 8, 9, 10] .nil)⟩), (16, ⟨[0, 1, 3, 7, 0, 16, 48, 112, 0, 0, 0, 1024, 3584, 8176, 16383, 32767, 65535, 65535, 131071, 524287], 0, (.h [0, 1, 2, 3, 4, 5, 6, 7, 8, 9, 10, 11, 12, 13] (.o 14 (.h [15, 16, 17, 18, 19] .nil)))⟩), (19, ⟨[0, 1, 3, 7, 0, 16, 48, 112, 0, 511, 1023], 128, (.h [0, 1, 2, 3, 4, 5, 6, 8] (.o 7 (.o 9 (.h [10] .nil))))⟩)]⟩
theorem fi465_ok : fnB fi465 = true := by decide +kernel
noncomputable def fi466 : FI := ⟨Tryz.f466, []⟩
theorem fi466_ok : fnB fi466 = true := by decide +kernel
noncomputable def fi467 : FI := ⟨Tryz.f467, []⟩
theorem fi467_ok : fnB fi467 = true := by decide +kernel
noncomputable def fi468 : FI := ⟨Tryz.f468, []⟩
theorem fi468_ok : fnB fi468 = true := by decide +kernel
noncomputable def fi469 : FI := ⟨Tryz.f469, [(17, ⟨[0, 1, 3, 7, 7, 23, 63, 127, 7, 7, 775, 1799, 4095, 8191, 16383], 0, (.h [0, 1, 2, 3, 4, 5, 6, 7, 8, 9, 10, 11] (.o 12 (.h [13, 14] .nil)))⟩)]⟩
theorem fi469_ok : fnB fi469 = true := by decide +kernel
noncomputable def fi470 : FI := ⟨Tryz.f470, []⟩
theorem fi470_ok : fnB fi470 = true := by decide +kernel
noncomputable def fi471 : FI := ⟨Tryz.f471, [(17, ⟨[0, 1, 3, 7, 7, 23, 63, 127, 7, 7, 775, 1799, 4095, 8191, 16383], 0, (.h [0, 1, 2, 3, 4, 5, 6, 7, 8, 9, 10, 11] (.o 12 (.h [13, 14] .nil)))⟩)]⟩
theorem fi471_ok : fnB fi471 = true := by decide +kernel
noncomputable def fi472 : FI := ⟨Tryz.f472, []⟩
theorem fi472_ok : fnB fi472 = true := by decide +kernel
noncomputable def fi473 : FI := ⟨Tryz.f473, []⟩
theorem fi473_ok : fnB fi473 = true := by decide +kernel
noncomputable def fi474 : FI := ⟨Tryz.f474, []⟩
theorem fi474_ok : fnB fi474 = true := by decide +kernel
noncomputable def fi475 : FI := ⟨Tryz.f475, [(6, ⟨[0, 0, 3, 7, 0, 0, 48, 112, 255], 0, (.h [0, 1, 2, 3, 4, 5, 6, 7, 8] .nil)⟩)]⟩
theorem fi475_ok : fnB fi475 = true := by decide +kernel
noncomputable def fi476 : FI := ⟨Tryz.f476, []⟩
theorem fi476_ok : fnB fi476 = true := by decide +kernel
noncomputable def fi477 : FI := ⟨Tryz.f477, []⟩
theorem fi477_ok : fnB fi477 = true := by decide +kernel
noncomputable def fi478 : FI := ⟨Tryz.f478, []⟩
theorem fi478_ok : fnB fi478 = true := by decide +kernel
noncomputable def fi479 : FI := ⟨Tryz.f479, []⟩
theorem fi479_ok : fnB fi479 = true := by decide +kernel
noncomputable def fi480 : FI := ⟨Tryz.f480, []⟩
theorem fi480_ok : fnB fi480 = true := by decide +kernel
noncomputable def fi481 : FI := ⟨Tryz.f481, []⟩
theorem fi481_ok : fnB fi481 = true := by decide +kernel
noncomputable def fi482 : FI := ⟨Tryz.f482, []⟩
theorem fi482_ok : fnB fi482 = true := by decide +kernel
noncomputable def fi483 : FI := ⟨Tryz.f483, []⟩
theorem fi483_ok : fnB fi483 = true := by decide +kernel
noncomputable def fi484 : FI := ⟨Tryz.f484, [(5, ⟨[0, 0, 2, 6, 14, 30, 62, 126, 254, 510, 510, 2046, 4094, 8190, 16382, 32766, 65534, 65535, 262143], 262112, (.h [0, 1, 2, 3, 4] (.o 5 (.h [6, 7, 8, 9, 10, 11, 12, 13, 14] (.o 15 (.h [16] (.o 17 (.h [18] .nil)))))))⟩)]⟩
theorem fi484_ok : fnB fi484 = true := by decide +kernel
noncomputable def fi485 : FI := ⟨Tryz.f485, []⟩
theorem fi485_ok : fnB fi485 = true := by decide +kernel
noncomputable def fi486 : FI := ⟨Tryz.f486, []⟩
theorem fi486_ok : fnB fi486 = true := by decide +kernel
noncomputable def fi487 : FI := ⟨Tryz.f487, []⟩
theorem fi487_ok : fnB fi487 = true := by decide +kernel
noncomputable def fi488 : FI := ⟨Tryz.f488, [(3, ⟨[0, 1, 3, 7, 0, 31, 63, 127, 127, 255, 1023], 0, (.h [0, 1, 2, 3, 4, 5, 6, 7, 8, 9, 10] .nil)⟩)]⟩
theorem fi488_ok : fnB fi488 = true := by decide +kernel
noncomputable def fi489 : FI := ⟨Tryz.f489, []⟩
theorem fi489_ok : fnB fi489 = true := by decide +kernel
noncomputable def fi490 : FI := ⟨Tryz.f490, []⟩
theorem fi490_ok : fnB fi490 = true := by decide +kernel
noncomputable def fi491 : FI := ⟨Tryz.f491, []⟩
theorem fi491_ok : fnB fi491 = true := by decide +kernel
noncomputable def fi492 : FI := ⟨Tryz.f492, []⟩
theorem fi492_ok : fnB fi492 = true := by decide +kernel
noncomputable def fi493 : FI := ⟨Tryz.f493, []⟩
theorem fi493_ok : fnB fi493 = true := by decide +kernel
noncomputable def fi494 : FI := ⟨Tryz.f494, []⟩
theorem fi494_ok : fnB fi494 = true := by decide +kernel
noncomputable def fi495 : FI := ⟨Tryz.f495, []⟩
theorem fi495_ok : fnB fi495 = true := by decide +kernel
noncomputable def fi496 : FI := ⟨Tryz.f496, []⟩
theorem fi496_ok : fnB fi496 = true := by decide +kernel
noncomputable def fi497 : FI := ⟨Tryz.f497, []⟩
theorem fi497_ok : fnB fi497 = true := by decide +kernel
noncomputable def fi498 : FI := ⟨Tryz.f498, []⟩
theorem fi498_ok : fnB fi498 = true := by decide +kernel
noncomputable def fi499 : FI := ⟨Tryz.f499, []⟩
theorem fi499_ok : fnB fi499 = true := by decide +kernel
noncomputable def fi500 : FI := ⟨Tryz.f500, []⟩
theorem fi500_ok : fnB fi500 = true := by decide +kernel
noncomputable def fi501 : FI := ⟨Tryz.f501, []⟩
theorem fi501_ok : fnB fi501 = true := by decide +kernel
noncomputable def fi502 : FI := ⟨Tryz.f502, [(4, ⟨[0, 1, 0, 4, 0, 16, 0, 64, 3, 259, 783, 1807, 3903, 7999, 16383, 32767], 15872, (.h [0, 1, 2, 3, 4, 5, 6, 7, 8] (.o 9 (.h [10] (.o 11 (.h [12] (.o 13 (.h [14] (.o 15 .nil))))))))⟩)]⟩
theorem fi502_ok : fnB fi502 = true := by decide +kernel
noncomputable def fi503 : FI := ⟨Tryz.f503, []⟩
theorem fi503_ok : fnB fi503 = true := by decide +kernel
noncomputable def fi504 : FI := ⟨Tryz.f504, [(12, ⟨[0, 1, 3, 7, 0, 16, 48, 112, 0, 0, 512, 1536, 3584, 0, 16128, 32752, 65535, 131071], 32768, (.h [0, 1, 2, 3, 4, 5, 6, 7, 8, 9, 10, 11, 12, 13, 14] (.o 15 (.h [16, 17] .nil)))⟩)]⟩
theorem fi504_ok : fnB fi504 = true := by decide +kernel
noncomputable def fi505 : FI := ⟨Tryz.f505, []⟩
theorem fi505_ok : fnB fi505 = true := by decide +kernel
noncomputable def fi506 : FI := ⟨Tryz.f506, [(9, ⟨[0, 0, 0, 4, 0, 31, 63, 127, 127, 127, 0, 1279, 3583, 8191], 8, (.h [0, 1, 2, 4] (.w 3 10 (.w 5 10 (.h [6, 7, 8, 9] (.o 10 (.o 11 (.h [12, 13] .nil)))) (.o 5 (.h [6, 7, 8, 9] (.o 11 (.h [12, 13] .nil))))) (.o 3 (.o 5 (.h [6, 7, 8, 9] (.o 11 (.h [12, 13] .nil)))))))⟩)]⟩
theorem fi506_ok : fnB fi506 = true := by decide +kernel
noncomputable def fi507 : FI := ⟨Tryz.f507, [(11, ⟨[0, 0, 2, 6, 14, 0, 0, 126, 0, 256, 768, 1792, 0, 4096, 16128, 32766, 65535, 131071, 262143], 0, (.h [0, 1, 2, 3, 4, 5, 6, 7, 8, 9, 10, 11, 12, 13, 14] (.o 15 (.h [16, 17] (.o 18 .nil))))⟩), (14, ⟨[0, 0, 2, 6, 14, 0, 32, 126, 255, 511, 1023], 0, (.h [0, 1, 2, 3, 4, 5] (.o 6 (.o 7 (.h [8, 9] (.o 10 .nil)))))⟩)]⟩
theorem fi507_ok : fnB fi507 = true := by decide +kernel
noncomputable def fi508 : FI := ⟨Tryz.f508, []⟩
theorem fi508_ok : fnB fi508 = true := by decide +kernel
noncomputable def fi509 : FI := ⟨Tryz.f509, []⟩
theorem fi509_ok : fnB fi509 = true := by decide +kernel
noncomputable def fi510 : FI := ⟨Tryz.f510, []⟩
theorem fi510_ok : fnB fi510 = true := by decide +kernel
noncomputable def fi511 : FI := ⟨Tryz.f511, []⟩
theorem fi511_ok : fnB fi511 = true := by decide +kernel
noncomputable def fi512 : FI := ⟨Tryz.f512, []⟩
theorem fi512_ok : fnB fi512 = true := by decide +kernel
noncomputable def fi513 : FI := ⟨Tryz.f513, []⟩
theorem fi513_ok : fnB fi513 = true := by decide +kernel
noncomputable def fi514 : FI := ⟨Tryz.f514, []⟩
theorem fi514_ok : fnB fi514 = true := by decide +kernel
noncomputable def fi515 : FI := ⟨Tryz.f515, []⟩
theorem fi515_ok : fnB fi515 = true := by decide +kernel
noncomputable def fi516 : FI := ⟨Tryz.f516, []⟩
theorem fi516_ok : fnB fi516 = true := by decide +kernel
noncomputable def fi517 : FI := ⟨Tryz.f517, []⟩
theorem fi517_ok : fnB fi517 = true := by decide +kernel
noncomputable def fi518 : FI := ⟨Tryz.f518, []⟩
theorem fi518_ok : fnB fi518 = true := by decide +kernel
noncomputable def fi519 : FI := ⟨Tryz.f519, [(4, ⟨[0, 0, 3, 7, 15, 15, 63, 127, 15, 15, 527, 1807, 3855, 8191, 16383], 0, (.h [0, 1, 2, 3, 4, 5, 6, 7, 8, 9, 10, 11, 12] (.o 13 (.h [14] .nil)))⟩), (6, ⟨[0, 0, 0, 0, 8, 0, 0, 64, 224, 480, 0, 0, 3072, 7168, 16355, 32739, 65535, 131071], 0, (.h [0, 1, 2, 3, 4, 5, 6, 7, 8, 9, 10, 11, 12, 13, 14] (.o 15 (.h [16] (.o 17 .nil))))⟩)]⟩
theorem fi519_ok : fnB fi519 = true := by decide +kernel
noncomputable def fi520 : FI := ⟨Tryz.f520, [(10, ⟨[0, 0, 0, 0, 0, 24, 0, 0, 0, 384, 960, 1984, 0, 0, 12288, 28672, 65475, 131011, 262143, 524287], 0, (.h [0, 1, 2, 3, 4, 5, 6, 7, 8, 9, 10, 11, 12, 13, 14, 15, 16] (.o 17 (.h [18] (.o 19 .nil))))⟩)]⟩
theorem fi520_ok : fnB fi520 = true := by decide +kernel
noncomputable def fi521 : FI := ⟨Tryz.f521, [(10, ⟨[0, 0, 0, 0, 0, 24, 0, 0, 0, 384, 960, 1984, 0, 0, 12288, 28672, 65475, 131011, 262143, 524287], 0, (.h [0, 1, 2, 3, 4, 5, 6, 7, 8, 9, 10, 11, 12, 13, 14, 15, 16] (.o 17 (.h [18] (.o 19 .nil))))⟩)]⟩
theorem fi521_ok : fnB fi521 = true := by decide +kernel
noncomputable def fi522 : FI := ⟨Tryz.f522, []⟩
theorem fi522_ok : fnB fi522 = true := by decide +kernel
noncomputable def fi523 : FI := ⟨Tryz.f523, [(3, ⟨[0, 0, 0, 0, 0, 0, 48, 112, 0, 0, 768, 1792, 4083, 8179, 16383, 32767], 0, (.h [0, 1, 2, 3, 4, 5, 6, 7, 8, 9, 10, 11, 12] (.o 13 (.h [14] (.o 15 .nil))))⟩)]⟩
theorem fi523_ok : fnB fi523 = true := by decide +kernel
noncomputable def fi524 : FI := ⟨Tryz.f524, [(5, ⟨[0, 0, 3, 7, 15, 15, 63, 127, 15, 15, 527, 1807, 3855, 8191, 16383, 32767], 0, (.h [0, 1, 2, 3, 4, 5, 6, 7, 8, 9, 10, 11, 12] (.o 13 (.h [14, 15] .nil)))⟩), (11, ⟨[0, 0, 0, 0, 8, 0, 0, 64, 224, 480, 0, 0, 3072, 7168, 16355, 32739, 65535, 131071], 0, (.h [0, 1, 2, 3, 4, 5, 6, 7, 8, 9, 10, 11, 12, 13, 14] (.o 15 (.h [16] (.o 17 .nil))))⟩), (16, ⟨[0, 0, 3, 7, 0, 0, 32, 112, 240, 511, 1023], 0, (.h [0, 1, 2, 3, 4, 5, 6, 7, 8] (.o 9 (.h [10] .nil)))⟩), (17, ⟨[0, 0, 0, 0, 8, 0, 0, 64, 224, 480, 0, 0, 3072, 7168, 16355, 32739, 65535, 131071], 0, (.h [0, 1, 2, 3, 4, 5, 6, 7, 8, 9, 10, 11, 12, 13, 14] (.o 15 (.h [16] (.o 17 .nil))))⟩), (22, ⟨[0, 0, 3, 7, 0, 0, 32, 112, 240, 511, 1023], 0, (.h [0, 1, 2, 3, 4, 5, 6, 7, 8] (.o 9 (.h [10] .nil)))⟩), (23, ⟨[0, 0, 0, 0, 8, 0, 0, 64, 224, 480, 0, 0, 3072, 7168, 16355, 32739, 65535, 131071], 0, (.h [0, 1, 2, 3, 4, 5, 6, 7, 8, 9, 10, 11, 12, 13, 14] (.o 15 (.h [16] (.o 17 .nil))))⟩)]⟩
theorem fi524_ok : fnB fi524 = true := by decide +kernel
noncomputable def fi525 : FI := ⟨Tryz.f525, []⟩
theorem fi525_ok : fnB fi525 = true := by decide +kernel
noncomputable def fi526 : FI := ⟨Tryz.f526, [(1, ⟨[0, 0, 0, 0, 0, 0, 48, 112, 0, 0, 768, 1792, 4083, 8179, 16383, 32767], 0, (.h [0, 1, 2, 3, 4, 5, 6, 7, 8, 9, 10, 11, 12] (.o 13 (.h [14] (.o 15 .nil))))⟩), (3, ⟨[0, 0, 3, 7, 15, 15, 63, 127, 15, 15, 783, 1807, 4095, 8191, 16383], 0, (.h [0, 1, 2, 3, 4, 5, 6, 7, 8, 9, 10, 11] (.o 12 (.h [13, 14] .nil)))⟩), (5, ⟨[0, 0, 3, 7, 15, 15, 63, 127, 15, 15, 783, 1807, 4095, 8191], 0, (.h [0, 1, 2, 3, 4, 5, 6, 7, 8, 9, 10, 11] (.o 12 (.h [13] .nil)))⟩), (8, ⟨[0, 0, 0, 0, 0, 0, 48, 112, 0, 0, 768, 1792, 4083, 8179, 16383, 32767], 0, (.h [0, 1, 2, 3, 4, 5, 6, 7, 8, 9, 10, 11, 12] (.o 13 (.h [14] (.o 15 .nil))))⟩)]⟩
theorem fi526_ok : fnB fi526 = true := by decide +kernel
noncomputable def fi527 : FI := ⟨Tryz.f527, [(1, ⟨[0, 0, 0, 0, 0, 0, 48, 112, 0, 0, 768, 1792, 4083, 8179, 16383, 32767], 0, (.h [0, 1, 2, 3, 4, 5, 6, 7, 8, 9, 10, 11, 12] (.o 13 (.h [14] (.o 15 .nil))))⟩), (3, ⟨[0, 0, 3, 7, 15, 15, 63, 127, 15, 15, 783, 1807, 4095, 8191], 0, (.h [0, 1, 2, 3, 4, 5, 6, 7, 8, 9, 10, 11] (.o 12 (.h [13] .nil)))⟩), (5, ⟨[0, 0, 3, 7, 15, 15, 63, 127, 15, 15, 783, 1807, 4095, 8191, 16383], 0, (.h [0, 1, 2, 3, 4, 5, 6, 7, 8, 9, 10, 11] (.o 12 (.h [13, 14] .nil)))⟩), (8, ⟨[0, 0, 0, 0, 0, 0, 48, 112, 0, 0, 768, 1792, 4083, 8179, 16383, 32767], 0, (.h [0, 1, 2, 3, 4, 5, 6, 7, 8, 9, 10, 11, 12] (.o 13 (.h [14] (.o 15 .nil))))⟩), (10, ⟨[0, 0, 0, 0, 0, 0, 48, 112, 0, 0, 768, 1792, 4083, 8179, 16383, 32767], 0, (.h [0, 1, 2, 3, 4, 5, 6, 7, 8, 9, 10, 11, 12] (.o 13 (.h [14] (.o 15 .nil))))⟩), (13, ⟨[0, 0, 3, 7, 15, 15, 63, 127, 15, 15, 783, 1807, 4095, 8191], 0, (.h [0, 1, 2, 3, 4, 5, 6, 7, 8, 9, 10, 11] (.o 12 (.h [13] .nil)))⟩), (15, ⟨[0, 0, 3, 7, 15, 15, 63, 127, 15, 15, 783, 1807, 4095, 8191, 16383], 0, (.h [0, 1, 2, 3, 4, 5, 6, 7, 8, 9, 10, 11] (.o 12 (.h [13, 14] .nil)))⟩), (18, ⟨[0, 0, 0, 0, 0, 0, 48, 112, 0, 0, 768, 1792, 4083, 8179, 16383, 32767], 0, (.h [0, 1, 2, 3, 4, 5, 6, 7, 8, 9, 10, 11, 12] (.o 13 (.h [14] (.o 15 .nil))))⟩), (21, ⟨[0, 0, 0, 0, 0, 0, 48, 112, 0, 0, 768, 1792, 4083, 8179, 16383, 32767], 0, (.h [0, 1, 2, 3, 4, 5, 6, 7, 8, 9, 10, 11, 12] (.o 13 (.h [14] (.o 15 .nil))))⟩)]⟩
theorem fi527_ok : fnB fi527 = true := by decide +kernel
noncomputable def fi528 : FI := ⟨Tryz.f528, []⟩
theorem fi528_ok : fnB fi528 = true := by decide +kernel
noncomputable def fi529 : FI := ⟨Tryz.f529, []⟩
theorem fi529_ok : fnB fi529 = true := by decide +kernel
noncomputable def fi530 : FI := ⟨Tryz.f530, [(4, ⟨[0, 0, 3, 7, 15, 15, 63, 127, 15, 15, 527, 1807, 3855, 8191, 16383], 0, (.h [0, 1, 2, 3, 4, 5, 6, 7, 8, 9, 10, 11, 12] (.o 13 (.h [14] .nil)))⟩), (6, ⟨[0, 0, 0, 0, 8, 0, 0, 64, 224, 480, 0, 0, 3072, 7168, 16355, 32739, 65535, 131071], 0, (.h [0, 1, 2, 3, 4, 5, 6, 7, 8, 9, 10, 11, 12, 13, 14] (.o 15 (.h [16] (.o 17 .nil))))⟩)]⟩
theorem fi530_ok : fnB fi530 = true := by decide +kernel
noncomputable def fi531 : FI := ⟨Tryz.f531, [(10, ⟨[0, 0, 0, 0, 0, 24, 0, 0, 0, 384, 960, 1984, 0, 0, 12288, 28672, 65475, 131011, 262143, 524287], 0, (.h [0, 1, 2, 3, 4, 5, 6, 7, 8, 9, 10, 11, 12, 13, 14, 15, 16] (.o 17 (.h [18] (.o 19 .nil))))⟩)]⟩
theorem fi531_ok : fnB fi531 = true := by decide +kernel
noncomputable def fi532 : FI := ⟨Tryz.f532, [(10, ⟨[0, 0, 0, 0, 0, 24, 0, 0, 0, 384, 960, 1984, 0, 0, 12288, 28672, 65475, 131011, 262143, 524287], 0, (.h [0, 1, 2, 3, 4, 5, 6, 7, 8, 9, 10, 11, 12, 13, 14, 15, 16] (.o 17 (.h [18] (.o 19 .nil))))⟩)]⟩
theorem fi532_ok : fnB fi532 = true := by decide +kernel
noncomputable def fi533 : FI := ⟨Tryz.f533, []⟩
theorem fi533_ok : fnB fi533 = true := by decide +kernel
noncomputable def fi534 : FI := ⟨Tryz.f534, [(3, ⟨[0, 0, 0, 0, 0, 0, 48, 112, 0, 0, 768, 1792, 4083, 8179, 16383, 32767], 0, (.h [0, 1, 2, 3, 4, 5, 6, 7, 8, 9, 10, 11, 12] (.o 13 (.h [14] (.o 15 .nil))))⟩)]⟩
theorem fi534_ok : fnB fi534 = true := by decide +kernel
noncomputable def fi535 : FI := ⟨Tryz.f535, [(5, ⟨[0, 0, 3, 7, 15, 15, 63, 127, 15, 15, 527, 1807, 3855, 8191, 16383, 32767], 0, (.h [0, 1, 2, 3, 4, 5, 6, 7, 8, 9, 10, 11, 12] (.o 13 (.h [14, 15] .nil)))⟩), (11, ⟨[0, 0, 0, 0, 8, 0, 0, 64, 224, 480, 0, 0, 3072, 7168, 16355, 32739, 65535, 131071], 0, (.h [0, 1, 2, 3, 4, 5, 6, 7, 8, 9, 10, 11, 12, 13, 14] (.o 15 (.h [16] (.o 17 .nil))))⟩), (16, ⟨[0, 0, 3, 7, 0, 0, 32, 112, 240, 511, 1023], 0, (.h [0, 1, 2, 3, 4, 5, 6, 7, 8] (.o 9 (.h [10] .nil)))⟩), (17, ⟨[0, 0, 0, 0, 8, 0, 0, 64, 224, 480, 0, 0, 3072, 7168, 16355, 32739, 65535, 131071], 0, (.h [0, 1, 2, 3, 4, 5, 6, 7, 8, 9, 10, 11, 12, 13, 14] (.o 15 (.h [16] (.o 17 .nil))))⟩), (22, ⟨[0, 0, 3, 7, 0, 0, 32, 112, 240, 511, 1023], 0, (.h [0, 1, 2, 3, 4, 5, 6, 7, 8] (.o 9 (.h [10] .nil)))⟩), (23, ⟨[0, 0, 0, 0, 8, 0, 0, 64, 224, 480, 0, 0, 3072, 7168, 16355, 32739, 65535, 131071], 0, (.h [0, 1, 2, 3, 4, 5, 6, 7, 8, 9, 10, 11, 12, 13, 14] (.o 15 (.h [16] (.o 17 .nil))))⟩)]⟩
theorem fi535_ok : fnB fi535 = true := by decide +kernel
noncomputable def fi536 : FI := ⟨Tryz.f536, []⟩
theorem fi536_ok : fnB fi536 = true := by decide +kernel
noncomputable def fi537 : FI := ⟨Tryz.f537, [(1, ⟨[0, 0, 0, 0, 0, 0, 48, 112, 0, 0, 768, 1792, 4083, 8179, 16383, 32767], 0, (.h [0, 1, 2, 3, 4, 5, 6, 7, 8, 9, 10, 11, 12] (.o 13 (.h [14] (.o 15 .nil))))⟩), (3, ⟨[0, 0, 3, 7, 15, 15, 63, 127, 15, 15, 783, 1807, 4095, 8191, 16383], 0, (.h [0, 1, 2, 3, 4, 5, 6, 7, 8, 9, 10, 11] (.o 12 (.h [13, 14] .nil)))⟩), (5, ⟨[0, 0, 3, 7, 15, 15, 63, 127, 15, 15, 783, 1807, 4095, 8191], 0, (.h [0, 1, 2, 3, 4, 5, 6, 7, 8, 9, 10, 11] (.o 12 (.h [13] .nil)))⟩), (8, ⟨[0, 0, 0, 0, 0, 0, 48, 112, 0, 0, 768, 1792, 4083, 8179, 16383, 32767], 0, (.h [0, 1, 2, 3, 4, 5, 6, 7, 8, 9, 10, 11, 12] (.o 13 (.h [14] (.o 15 .nil))))⟩)]⟩
theorem fi537_ok : fnB fi537 = true := by decide +kernel
noncomputable def fi538 : FI := ⟨Tryz.f538, [(1, ⟨[0, 0, 0, 0, 0, 0, 48, 112, 0, 0, 768, 1792, 4083, 8179, 16383, 32767], 0, (.h [0, 1, 2, 3, 4, 5, 6, 7, 8, 9, 10, 11, 12] (.o 13 (.h [14] (.o 15 .nil))))⟩), (3, ⟨[0, 0, 3, 7, 15, 15, 63, 127, 15, 15, 783, 1807, 4095, 8191], 0, (.h [0, 1, 2, 3, 4, 5, 6, 7, 8, 9, 10, 11] (.o 12 (.h [13] .nil)))⟩), (5, ⟨[0, 0, 3, 7, 15, 15, 63, 127, 15, 15, 783, 1807, 4095, 8191, 16383], 0, (.h [0, 1, 2, 3, 4, 5, 6, 7, 8, 9, 10, 11] (.o 12 (.h [13, 14] .nil)))⟩), (8, ⟨[0, 0, 0, 0, 0, 0, 48, 112, 0, 0, 768, 1792, 4083, 8179, 16383, 32767], 0, (.h [0, 1, 2, 3, 4, 5, 6, 7, 8, 9, 10, 11, 12] (.o 13 (.h [14] (.o 15 .nil))))⟩), (10, ⟨[0, 0, 0, 0, 0, 0, 48, 112, 0, 0, 768, 1792, 4083, 8179, 16383, 32767], 0, (.h [0, 1, 2, 3, 4, 5, 6, 7, 8, 9, 10, 11, 12] (.o 13 (.h [14] (.o 15 .nil))))⟩), (13, ⟨[0, 0, 3, 7, 15, 15, 63, 127, 15, 15, 783, 1807, 4095, 8191], 0, (.h [0, 1, 2, 3, 4, 5, 6, 7, 8, 9, 10, 11] (.o 12 (.h [13] .nil)))⟩), (15, ⟨[0, 0, 3, 7, 15, 15, 63, 127, 15, 15, 783, 1807, 4095, 8191, 16383], 0, (.h [0, 1, 2, 3, 4, 5, 6, 7, 8, 9, 10, 11] (.o 12 (.h [13, 14] .nil)))⟩), (18, ⟨[0, 0, 0, 0, 0, 0, 48, 112, 0, 0, 768, 1792, 4083, 8179, 16383, 32767], 0, (.h [0, 1, 2, 3, 4, 5, 6, 7, 8, 9, 10, 11, 12] (.o 13 (.h [14] (.o 15 .nil))))⟩), (21, ⟨[0, 0, 0, 0, 0, 0, 48, 112, 0, 0, 768, 1792, 4083, 8179, 16383, 32767], 0, (.h [0, 1, 2, 3, 4, 5, 6, 7, 8, 9, 10, 11, 12] (.o 13 (.h [14] (.o 15 .nil))))⟩)]⟩
theorem fi538_ok : fnB fi538 = true := by decide +kernel
noncomputable def fi539 : FI := ⟨Tryz.f539, []⟩
theorem fi539_ok : fnB fi539 = true := by decide +kernel
noncomputable def fi540 : FI := ⟨Tryz.f540, []⟩
theorem fi540_ok : fnB fi540 = true := by decide +kernel
noncomputable def fi541 : FI := ⟨Tryz.f541, []⟩
theorem fi541_ok : fnB fi541 = true := by decide +kernel
noncomputable def fi542 : FI := ⟨Tryz.f542, []⟩
theorem fi542_ok : fnB fi542 = true := by decide +kernel
noncomputable def fi543 : FI := ⟨Tryz.f543, []⟩
theorem fi543_ok : fnB fi543 = true := by decide +kernel
noncomputable def fi544 : FI := ⟨Tryz.f544, [(17, ⟨[0, 1, 3, 7, 7, 23, 63, 127, 7, 7, 775, 1799, 4095, 8191, 16383], 0, (.h [0, 1, 2, 3, 4, 5, 6, 7, 8, 9, 10, 11] (.o 12 (.h [13, 14] .nil)))⟩)]⟩
theorem fi544_ok : fnB fi544 = true := by decide +kernel
noncomputable def fi546 : FI := ⟨Tryz.f546, []⟩
theorem fi546_ok : fnB fi546 = true := by decide +kernel
noncomputable def fi547 : FI := ⟨Tryz.f547, []⟩
theorem fi547_ok : fnB fi547 = true := by decide +kernel
noncomputable def fi549 : FI := ⟨Tryz.f549, []⟩
theorem fi549_ok : fnB fi549 = true := by decide +kernel
noncomputable def fi550 : FI := ⟨Tryz.f550, []⟩
theorem fi550_ok : fnB fi550 = true := by decide +kernel
noncomputable def fi551 : FI := ⟨Tryz.f551, [(0, ⟨[0, 1, 3, 0, 8, 31], 0, (.h [0, 1, 2, 3] (.o 4 (.o 5 .nil)))⟩)]⟩
theorem fi551_ok : fnB fi551 = true := by decide +kernel
noncomputable def fi552 : FI := ⟨Tryz.f552, []⟩
theorem fi552_ok : fnB fi552 = true := by decide +kernel
noncomputable def fi553 : FI := ⟨Tryz.f553, []⟩
theorem fi553_ok : fnB fi553 = true := by decide +kernel
noncomputable def fi554 : FI := ⟨Tryz.f554, [(4, ⟨[0, 1, 0, 4, 12, 28, 63], 0, (.h [0, 1, 2, 3, 4, 5, 6] .nil)⟩)]⟩
theorem fi554_ok : fnB fi554 = true := by decide +kernel
end Go.Proofs.YtkbpafbbogjifaaGreat
