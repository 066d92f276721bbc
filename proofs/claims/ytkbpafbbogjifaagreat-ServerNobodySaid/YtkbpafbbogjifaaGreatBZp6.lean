/- A runner's tables: functions. -/
import Derived.Test.YtkbpafbbogjifaaGreatBc
import Derived.Test.YtkbpafbbogjifaaGreatProg
namespace Go.Proofs.YtkbpafbbogjifaaGreat
open Go Go.Proofs.Rn
noncomputable def fi555 : FI := ⟨Tryz.f555, [(7, ⟨[0, 0, 2, 6, 15, 0, 0, 64, 192, 480, 1023, 2047], 0, (.h [0, 1, 2, 3, 4, 5, 6, 7, 8, 9, 10, 11] .nil)⟩)]⟩
theorem fi555_ok : fnB fi555 = true := by decide +kernel
noncomputable def fi556 : FI := ⟨Tryz.f556, [(9, ⟨[0, 1, 3, 0, 8, 0, 32, 96, 248, 504, 1016, 2047, 0, 0, 16383, 32767, 65535, 65535, 131071, 524287], 0, (.h [0, 1, 2, 3, 4, 5, 6, 7, 8, 9, 10, 11, 12, 13] (.o 14 (.h [15, 16, 17] (.o 18 (.h [19] .nil)))))⟩)]⟩
theorem fi556_ok : fnB fi556 = true := by decide +kernel
noncomputable def fi557 : FI := ⟨Tryz.f557, []⟩
theorem fi557_ok : fnB fi557 = true := by decide +kernel
noncomputable def fi558 : FI := ⟨Tryz.f558, []⟩
theorem fi558_ok : fnB fi558 = true := by decide +kernel
noncomputable def fi559 : FI := ⟨Tryz.f559, []⟩
theorem fi559_ok : fnB fi559 = true := by decide +kernel
noncomputable def fi560 : FI := ⟨Tryz.f560, [(3, ⟨[0, 1, 0, 7, 15, 31, 31, 31, 223, 511, 1023, 31, 31, 31, 12319, 28703, 63519, 129055, 262143, 524287], 0, (.h [0, 1, 2, 3, 4, 5, 6, 7, 8, 9, 10, 11, 12, 13, 14, 15, 16, 17] (.o 18 (.h [19] .nil)))⟩), (5, ⟨[0, 0, 0, 6, 15, 31, 0, 0, 0, 384, 960, 1984, 4095, 8191], 0, (.h [0, 1, 2, 3, 4, 5, 6, 7, 8, 9, 10, 11] (.o 12 (.h [13] .nil)))⟩), (6, ⟨[0, 0, 0, 6, 0, 0, 0, 96, 0, 0, 0, 1536, 3840, 7936, 0, 0, 0, 98304, 245760, 507904, 1048335, 2096911, 4194303, 8388607], 0, (.h [0, 1, 2, 3, 4, 5, 6, 7, 8, 9, 10, 11, 12, 13, 14, 15, 16, 17, 18, 19, 20] (.o 21 (.h [22] (.o 23 .nil))))⟩)]⟩
theorem fi560_ok : fnB fi560 = true := by decide +kernel
noncomputable def fi561 : FI := ⟨Tryz.f561, []⟩
theorem fi561_ok : fnB fi561 = true := by decide +kernel
noncomputable def fi562 : FI := ⟨Tryz.f562, [(1, ⟨[0, 1, 3, 0, 8, 24, 56, 127, 255, 511], 0, (.h [0, 1, 2, 3, 4, 5, 6, 7, 8] (.o 9 .nil))⟩), (2, ⟨[0, 1, 3, 0, 8, 24, 56, 127, 255, 511], 0, (.h [0, 1, 2, 3, 4, 5, 6, 7, 8] (.o 9 .nil))⟩), (3, ⟨[0, 1, 3, 0, 8, 24, 56, 127, 255, 511], 0, (.h [0, 1, 2, 3, 4, 5, 6, 7, 8] (.o 9 .nil))⟩)]⟩
theorem fi562_ok : fnB fi562 = true := by decide +kernel
noncomputable def fi563 : FI := ⟨Tryz.f563, []⟩
theorem fi563_ok : fnB fi563 = true := by decide +kernel
noncomputable def fi564 : FI := ⟨Tryz.f564, []⟩
theorem fi564_ok : fnB fi564 = true := by decide +kernel
noncomputable def fi565 : FI := ⟨Tryz.f565, []⟩
theorem fi565_ok : fnB fi565 = true := by decide +kernel
noncomputable def fi566 : FI := ⟨Tryz.f566, [(3, ⟨[0, 1, 0, 7, 15, 31, 31, 31, 223, 511, 1023, 31, 31, 31, 12319, 28703, 63519, 129055, 262143, 524287], 0, (.h [0, 1, 2, 3, 4, 5, 6, 7, 8, 9, 10, 11, 12, 13, 14, 15, 16, 17] (.o 18 (.h [19] .nil)))⟩), (5, ⟨[0, 0, 0, 6, 15, 31, 0, 0, 0, 384, 960, 1984, 4095, 8191], 0, (.h [0, 1, 2, 3, 4, 5, 6, 7, 8, 9, 10, 11] (.o 12 (.h [13] .nil)))⟩), (6, ⟨[0, 0, 0, 6, 0, 0, 0, 96, 0, 0, 0, 1536, 3840, 7936, 0, 0, 0, 98304, 245760, 507904, 1048335, 2096911, 4194303, 8388607], 0, (.h [0, 1, 2, 3, 4, 5, 6, 7, 8, 9, 10, 11, 12, 13, 14, 15, 16, 17, 18, 19, 20] (.o 21 (.h [22] (.o 23 .nil))))⟩)]⟩
theorem fi566_ok : fnB fi566 = true := by decide +kernel
noncomputable def fi567 : FI := ⟨Tryz.f567, []⟩
theorem fi567_ok : fnB fi567 = true := by decide +kernel
noncomputable def fi568 : FI := ⟨Tryz.f568, []⟩
theorem fi568_ok : fnB fi568 = true := by decide +kernel
noncomputable def fi569 : FI := ⟨Tryz.f569, [(4, ⟨[0, 0, 3, 7, 15, 15, 15, 111, 239, 15, 15, 1039, 3599, 7695, 16383, 32767, 65535], 0, (.h [0, 1, 2, 3, 4, 5, 6, 7, 8, 9, 10, 11, 12, 13] (.o 14 (.h [15, 16] .nil)))⟩), (6, ⟨[0, 0, 0, 0, 8, 0, 0, 64, 224, 480, 0, 0, 3072, 7168, 16355, 32739, 65535, 131071], 0, (.h [0, 1, 2, 3, 4, 5, 6, 7, 8, 9, 10, 11, 12, 13, 14] (.o 15 (.h [16] (.o 17 .nil))))⟩)]⟩
theorem fi569_ok : fnB fi569 = true := by decide +kernel
noncomputable def fi570 : FI := ⟨Tryz.f570, [(5, ⟨[0, 0, 0, 6, 14, 0, 0, 96, 224, 511, 1023], 0, (.h [0, 1, 2, 3, 4, 5, 6, 7, 8] (.o 9 (.h [10] .nil)))⟩), (11, ⟨[0, 0, 0, 0, 8, 0, 0, 64, 224, 480, 0, 0, 3072, 7168, 16355, 32739, 65535, 131071], 0, (.h [0, 1, 2, 3, 4, 5, 6, 7, 8, 9, 10, 11, 12, 13, 14] (.o 15 (.h [16] (.o 17 .nil))))⟩), (17, ⟨[0, 0, 0, 6, 14, 0, 0, 96, 224, 511, 1023, 2047], 0, (.h [0, 1, 2, 3, 4, 5, 6, 7, 8] (.o 9 (.h [10, 11] .nil)))⟩), (23, ⟨[0, 0, 0, 0, 8, 0, 0, 64, 224, 480, 0, 0, 3072, 7168, 16355, 32739, 65535, 131071], 0, (.h [0, 1, 2, 3, 4, 5, 6, 7, 8, 9, 10, 11, 12, 13, 14] (.o 15 (.h [16] (.o 17 .nil))))⟩), (35, ⟨[0, 0, 0, 0, 12, 30, 62, 0, 0, 384, 896, 2047, 4095, 8191], 0, (.h [0, 1, 2, 3, 4, 5, 6, 7, 8, 9, 10] (.o 11 (.h [12, 13] .nil)))⟩)]⟩
theorem fi570_ok : fnB fi570 = true := by decide +kernel
noncomputable def fi571 : FI := ⟨Tryz.f571, []⟩
theorem fi571_ok : fnB fi571 = true := by decide +kernel
noncomputable def fi572 : FI := ⟨Tryz.f572, []⟩
theorem fi572_ok : fnB fi572 = true := by decide +kernel
noncomputable def fi573 : FI := ⟨Tryz.f573, []⟩
theorem fi573_ok : fnB fi573 = true := by decide +kernel
noncomputable def fi574 : FI := ⟨Tryz.f574, [(4, ⟨[0, 0, 3, 7, 15, 15, 63, 127, 15, 15, 527, 1807, 3855, 8191, 16383], 0, (.h [0, 1, 2, 3, 4, 5, 6, 7, 8, 9, 10, 11, 12] (.o 13 (.h [14] .nil)))⟩), (6, ⟨[0, 0, 0, 0, 8, 0, 0, 64, 224, 480, 0, 0, 3072, 7168, 16355, 32739, 65535, 131071], 0, (.h [0, 1, 2, 3, 4, 5, 6, 7, 8, 9, 10, 11, 12, 13, 14] (.o 15 (.h [16] (.o 17 .nil))))⟩)]⟩
theorem fi574_ok : fnB fi574 = true := by decide +kernel
noncomputable def fi575 : FI := ⟨Tryz.f575, [(10, ⟨[0, 0, 0, 0, 0, 24, 0, 0, 0, 384, 960, 1984, 0, 0, 12288, 28672, 65475, 131011, 262143, 524287], 0, (.h [0, 1, 2, 3, 4, 5, 6, 7, 8, 9, 10, 11, 12, 13, 14, 15, 16] (.o 17 (.h [18] (.o 19 .nil))))⟩)]⟩
theorem fi575_ok : fnB fi575 = true := by decide +kernel
noncomputable def fi576 : FI := ⟨Tryz.f576, [(10, ⟨[0, 0, 0, 0, 0, 24, 0, 0, 0, 384, 960, 1984, 0, 0, 12288, 28672, 65475, 131011, 262143, 524287], 0, (.h [0, 1, 2, 3, 4, 5, 6, 7, 8, 9, 10, 11, 12, 13, 14, 15, 16] (.o 17 (.h [18] (.o 19 .nil))))⟩)]⟩
theorem fi576_ok : fnB fi576 = true := by decide +kernel
noncomputable def fi577 : FI := ⟨Tryz.f577, []⟩
theorem fi577_ok : fnB fi577 = true := by decide +kernel
noncomputable def fi578 : FI := ⟨Tryz.f578, [(3, ⟨[0, 0, 0, 0, 0, 0, 48, 112, 0, 0, 768, 1792, 4083, 8179, 16383, 32767], 0, (.h [0, 1, 2, 3, 4, 5, 6, 7, 8, 9, 10, 11, 12] (.o 13 (.h [14] (.o 15 .nil))))⟩)]⟩
theorem fi578_ok : fnB fi578 = true := by decide +kernel
noncomputable def fi579 : FI := ⟨Tryz.f579, [(5, ⟨[0, 0, 3, 7, 15, 15, 63, 127, 15, 15, 527, 1807, 3855, 8191, 16383, 32767], 0, (.h [0, 1, 2, 3, 4, 5, 6, 7, 8, 9, 10, 11, 12] (.o 13 (.h [14, 15] .nil)))⟩), (11, ⟨[0, 0, 0, 0, 8, 0, 0, 64, 224, 480, 0, 0, 3072, 7168, 16355, 32739, 65535, 131071], 0, (.h [0, 1, 2, 3, 4, 5, 6, 7, 8, 9, 10, 11, 12, 13, 14] (.o 15 (.h [16] (.o 17 .nil))))⟩), (16, ⟨[0, 0, 3, 7, 0, 0, 32, 112, 240, 511, 1023], 0, (.h [0, 1, 2, 3, 4, 5, 6, 7, 8] (.o 9 (.h [10] .nil)))⟩), (17, ⟨[0, 0, 0, 0, 8, 0, 0, 64, 224, 480, 0, 0, 3072, 7168, 16355, 32739, 65535, 131071], 0, (.h [0, 1, 2, 3, 4, 5, 6, 7, 8, 9, 10, 11, 12, 13, 14] (.o 15 (.h [16] (.o 17 .nil))))⟩), (22, ⟨[0, 0, 3, 7, 0, 0, 32, 112, 240, 511, 1023], 0, (.h [0, 1, 2, 3, 4, 5, 6, 7, 8] (.o 9 (.h [10] .nil)))⟩), (23, ⟨[0, 0, 0, 0, 8, 0, 0, 64, 224, 480, 0, 0, 3072, 7168, 16355, 32739, 65535, 131071], 0, (.h [0, 1, 2, 3, 4, 5, 6, 7, 8, 9, 10, 11, 12, 13, 14] (.o 15 (.h [16] (.o 17 .nil))))⟩)]⟩
theorem fi579_ok : fnB fi579 = true := by decide +kernel
noncomputable def fi580 : FI := ⟨Tryz.f580, []⟩
theorem fi580_ok : fnB fi580 = true := by decide +kernel
noncomputable def fi581 : FI := ⟨Tryz.f581, [(1, ⟨[0, 0, 0, 0, 0, 0, 48, 112, 0, 0, 768, 1792, 4083, 8179, 16383, 32767], 0, (.h [0, 1, 2, 3, 4, 5, 6, 7, 8, 9, 10, 11, 12] (.o 13 (.h [14] (.o 15 .nil))))⟩), (3, ⟨[0, 0, 3, 7, 15, 15, 63, 127, 15, 15, 783, 1807, 4095, 8191, 16383], 0, (.h [0, 1, 2, 3, 4, 5, 6, 7, 8, 9, 10, 11] (.o 12 (.h [13, 14] .nil)))⟩), (5, ⟨[0, 0, 3, 7, 15, 15, 63, 127, 15, 15, 783, 1807, 4095, 8191], 0, (.h [0, 1, 2, 3, 4, 5, 6, 7, 8, 9, 10, 11] (.o 12 (.h [13] .nil)))⟩), (8, ⟨[0, 0, 0, 0, 0, 0, 48, 112, 0, 0, 768, 1792, 4083, 8179, 16383, 32767], 0, (.h [0, 1, 2, 3, 4, 5, 6, 7, 8, 9, 10, 11, 12] (.o 13 (.h [14] (.o 15 .nil))))⟩)]⟩
theorem fi581_ok : fnB fi581 = true := by decide +kernel
noncomputable def fi582 : FI := ⟨Tryz.f582, [(1, ⟨[0, 0, 0, 0, 0, 0, 48, 112, 0, 0, 768, 1792, 4083, 8179, 16383, 32767], 0, (.h [0, 1, 2, 3, 4, 5, 6, 7, 8, 9, 10, 11, 12] (.o 13 (.h [14] (.o 15 .nil))))⟩), (3, ⟨[0, 0, 3, 7, 15, 15, 63, 127, 15, 15, 783, 1807, 4095, 8191], 0, (.h [0, 1, 2, 3, 4, 5, 6, 7, 8, 9, 10, 11] (.o 12 (.h [13] .nil)))⟩), (5, ⟨[0, 0, 3, 7, 15, 15, 63, 127, 15, 15, 783, 1807, 4095, 8191, 16383], 0, (.h [0, 1, 2, 3, 4, 5, 6, 7, 8, 9, 10, 11] (.o 12 (.h [13, 14] .nil)))⟩), (8, ⟨[0, 0, 0, 0, 0, 0, 48, 112, 0, 0, 768, 1792, 4083, 8179, 16383, 32767], 0, (.h [0, 1, 2, 3, 4, 5, 6, 7, 8, 9, 10, 11, 12] (.o 13 (.h [14] (.o 15 .nil))))⟩), (10, ⟨[0, 0, 0, 0, 0, 0, 48, 112, 0, 0, 768, 1792, 4083, 8179, 16383, 32767], 0, (.h [0, 1, 2, 3, 4, 5, 6, 7, 8, 9, 10, 11, 12] (.o 13 (.h [14] (.o 15 .nil))))⟩), (13, ⟨[0, 0, 3, 7, 15, 15, 63, 127, 15, 15, 783, 1807, 4095, 8191], 0, (.h [0, 1, 2, 3, 4, 5, 6, 7, 8, 9, 10, 11] (.o 12 (.h [13] .nil)))⟩), (15, ⟨[0, 0, 3, 7, 15, 15, 63, 127, 15, 15, 783, 1807, 4095, 8191, 16383], 0, (.h [0, 1, 2, 3, 4, 5, 6, 7, 8, 9, 10, 11] (.o 12 (.h [13, 14] .nil)))⟩), (18, ⟨[0, 0, 0, 0, 0, 0, 48, 112, 0, 0, 768, 1792, 4083, 8179, 16383, 32767], 0, (.h [0, 1, 2, 3, 4, 5, 6, 7, 8, 9, 10, 11, 12] (.o 13 (.h [14] (.o 15 .nil))))⟩), (21, ⟨[0, 0, 0, 0, 0, 0, 48, 112, 0, 0, 768, 1792, 4083, 8179, 16383, 32767], 0, (.h [0, 1, 2, 3, 4, 5, 6, 7, 8, 9, 10, 11, 12] (.o 13 (.h [14] (.o 15 .nil))))⟩)]⟩
theorem fi582_ok : fnB fi582 = true := by decide +kernel
noncomputable def fi584 : FI := ⟨Tryz.f584, []⟩
theorem fi584_ok : fnB fi584 = true := by decide +kernel
noncomputable def fi585 : FI := ⟨Tryz.f585, []⟩
theorem fi585_ok : fnB fi585 = true := by decide +kernel
noncomputable def fi587 : FI := ⟨Tryz.f587, []⟩
theorem fi587_ok : fnB fi587 = true := by decide +kernel
noncomputable def fi588 : FI := ⟨Tryz.f588, [(8, ⟨[0, 0, 3, 0, 0, 16, 56, 127], 0, (.h [0, 1, 2, 3, 4, 5, 6] (.o 7 .nil))⟩), (11, ⟨[0, 1, 3, 7, 0, 16, 63, 127, 255, 511], 0, (.h [0, 1, 2, 3, 4, 5, 6, 7, 8] (.o 9 .nil))⟩)]⟩
theorem fi588_ok : fnB fi588 = true := by decide +kernel
noncomputable def fi589 : FI := ⟨Tryz.f589, []⟩
theorem fi589_ok : fnB fi589 = true := by decide +kernel
noncomputable def fi590 : FI := ⟨Tryz.f590, [(5, ⟨[0, 1, 3, 7, 0, 16, 63, 127, 255, 511], 0, (.h [0, 1, 2, 3, 4, 5, 6, 7, 8] (.o 9 .nil))⟩), (9, ⟨[0, 1, 3, 7, 0, 16, 63], 0, (.h [0, 1, 2, 3, 4, 5] (.o 6 .nil))⟩)]⟩
theorem fi590_ok : fnB fi590 = true := by decide +kernel
noncomputable def fi591 : FI := ⟨Tryz.f591, [(5, ⟨[0, 0, 0, 7, 0, 16, 48, 112, 0, 0, 0, 1024, 4095, 8191, 16383, 32767], 8, (.h [0, 1, 2, 4, 5, 6, 7, 8, 9, 10, 11] (.o 3 (.o 12 (.h [13, 14, 15] .nil))))⟩)]⟩
theorem fi591_ok : fnB fi591 = true := by decide +kernel
noncomputable def fi592 : FI := ⟨Tryz.f592, [(1, ⟨[0, 0, 3, 7, 0, 0, 48, 112, 255], 0, (.h [0, 1, 2, 3, 4, 5, 6, 7] (.o 8 .nil))⟩)]⟩
theorem fi592_ok : fnB fi592 = true := by decide +kernel
noncomputable def fi593 : FI := ⟨Tryz.f593, [(1, ⟨[0, 0, 3, 7, 0, 0, 48, 112, 255], 0, (.h [0, 1, 2, 3, 4, 5, 6, 7] (.o 8 .nil))⟩)]⟩
theorem fi593_ok : fnB fi593 = true := by decide +kernel
noncomputable def fi594 : FI := ⟨Tryz.f594, []⟩
theorem fi594_ok : fnB fi594 = true := by decide +kernel
noncomputable def fi595 : FI := ⟨Tryz.f595, []⟩
theorem fi595_ok : fnB fi595 = true := by decide +kernel
noncomputable def fi598 : FI := ⟨Tryz.f598, [(3, ⟨[0, 1, 0, 7, 15, 31, 31, 31, 223, 511, 1023, 31, 31, 31, 12319, 28703, 63519, 129055, 262143, 524287], 0, (.h [0, 1, 2, 3, 4, 5, 6, 7, 8, 9, 10, 11, 12, 13, 14, 15, 16, 17] (.o 18 (.h [19] .nil)))⟩), (5, ⟨[0, 0, 0, 6, 15, 31, 0, 0, 0, 384, 960, 1984, 4095, 8191], 0, (.h [0, 1, 2, 3, 4, 5, 6, 7, 8, 9, 10, 11] (.o 12 (.h [13] .nil)))⟩), (6, ⟨[0, 0, 0, 6, 0, 0, 0, 96, 0, 0, 0, 1536, 3840, 7936, 0, 0, 0, 98304, 245760, 507904, 1048335, 2096911, 4194303, 8388607], 0, (.h [0, 1, 2, 3, 4, 5, 6, 7, 8, 9, 10, 11, 12, 13, 14, 15, 16, 17, 18, 19, 20] (.o 21 (.h [22] (.o 23 .nil))))⟩)]⟩
theorem fi598_ok : fnB fi598 = true := by decide +kernel
noncomputable def fi599 : FI := ⟨Tryz.f599, []⟩
theorem fi599_ok : fnB fi599 = true := by decide +kernel
noncomputable def fi600 : FI := ⟨Tryz.f600, []⟩
theorem fi600_ok : fnB fi600 = true := by decide +kernel
noncomputable def fi601 : FI := ⟨Tryz.f601, []⟩
theorem fi601_ok : fnB fi601 = true := by decide +kernel
noncomputable def fi602 : FI := ⟨Tryz.f602, []⟩
theorem fi602_ok : fnB fi602 = true := by decide +kernel
noncomputable def fi603 : FI := ⟨Tryz.f603, []⟩
theorem fi603_ok : fnB fi603 = true := by decide +kernel
noncomputable def fi604 : FI := ⟨Tryz.f604, []⟩
theorem fi604_ok : fnB fi604 = true := by decide +kernel
noncomputable def fi605 : FI := ⟨Tryz.f605, [(3, ⟨[0, 0, 0, 6, 0, 0, 0, 96, 0, 0, 0, 1536, 3840, 7936, 0, 0, 0, 98304, 245760, 507904, 1048335, 2096911, 4194303, 8388607], 0, (.h [0, 1, 2, 3, 4, 5, 6, 7, 8, 9, 10, 11, 12, 13, 14, 15, 16, 17, 18, 19, 20] (.o 21 (.h [22] (.o 23 .nil))))⟩)]⟩
theorem fi605_ok : fnB fi605 = true := by decide +kernel
noncomputable def fi606 : FI := ⟨Tryz.f606, [(1, ⟨[0, 0, 3, 7, 0, 0, 48, 112, 255], 0, (.h [0, 1, 2, 3, 4, 5, 6, 7] (.o 8 .nil))⟩)]⟩
theorem fi606_ok : fnB fi606 = true := by decide +kernel
noncomputable def fi611 : FI := ⟨Tryz.f611, []⟩
theorem fi611_ok : fnB fi611 = true := by decide +kernel
noncomputable def fi614 : FI := ⟨Tryz.f614, []⟩
theorem fi614_ok : fnB fi614 = true := by decide +kernel
noncomputable def fi615 : FI := ⟨Tryz.f615, []⟩
theorem fi615_ok : fnB fi615 = true := by decide +kernel
noncomputable def fi623 : FI := ⟨Tryz.f623, []⟩
theorem fi623_ok : fnB fi623 = true := by decide +kernel
end Go.Proofs.YtkbpafbbogjifaaGreat
