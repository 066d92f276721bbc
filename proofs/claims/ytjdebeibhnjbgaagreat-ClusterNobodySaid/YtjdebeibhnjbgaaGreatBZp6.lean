/- A runner's tables: functions. -/
import Derived.Test.YtjdebeibhnjbgaaGreatBc
import Derived.Test.YtjdebeibhnjbgaaGreatProg
namespace Go.Proofs.YtjdebeibhnjbgaaGreat
open Go Go.Proofs.Rn
noncomputable def fi553 : FI := ⟨Tryz.f553, []⟩
theorem fi553_ok : fnB fi553 = true := by decide +kernel
noncomputable def fi554 : FI := ⟨Tryz.f554, []⟩
theorem fi554_ok : fnB fi554 = true := by decide +kernel
noncomputable def fi555 : FI := ⟨Tryz.f555, []⟩
theorem fi555_ok : fnB fi555 = true := by decide +kernel
noncomputable def fi556 : FI := ⟨Tryz.f556, [(3, ⟨[0, 1, 3, 7, 0, 31, 63, 127, 127, 255, 1023], 0, (.h [0, 1, 2, 3, 4, 5, 6, 7, 8, 9, 10] .nil)⟩)]⟩
theorem fi556_ok : fnB fi556 = true := by decide +kernel
noncomputable def fi557 : FI := ⟨Tryz.f557, []⟩
theorem fi557_ok : fnB fi557 = true := by decide +kernel
noncomputable def fi558 : FI := ⟨Tryz.f558, []⟩
theorem fi558_ok : fnB fi558 = true := by decide +kernel
noncomputable def fi559 : FI := ⟨Tryz.f559, []⟩
theorem fi559_ok : fnB fi559 = true := by decide +kernel
noncomputable def fi560 : FI := ⟨Tryz.f560, []⟩
theorem fi560_ok : fnB fi560 = true := by decide +kernel
noncomputable def fi561 : FI := ⟨Tryz.f561, []⟩
theorem fi561_ok : fnB fi561 = true := by decide +kernel
noncomputable def fi562 : FI := ⟨Tryz.f562, [(11, ⟨[0, 0, 0, 1, 11, 31], 24, (.h [0, 1, 2] (.o 3 (.o 4 (.o 5 .nil))))⟩)]⟩
theorem fi562_ok : fnB fi562 = true := by decide +kernel
noncomputable def fi563 : FI := ⟨Tryz.f563, []⟩
theorem fi563_ok : fnB fi563 = true := by decide +kernel
noncomputable def fi564 : FI := ⟨Tryz.f564, []⟩
theorem fi564_ok : fnB fi564 = true := by decide +kernel
noncomputable def fi565 : FI := ⟨Tryz.f565, []⟩
theorem fi565_ok : fnB fi565 = true := by decide +kernel
noncomputable def fi566 : FI := ⟨Tryz.f566, [(0, ⟨[0, 1, 0, 4, 3, 31], 0, (.h [0, 1, 2, 3, 4, 5] .nil)⟩)]⟩
theorem fi566_ok : fnB fi566 = true := by decide +kernel
noncomputable def fi567 : FI := ⟨Tryz.f567, []⟩
theorem fi567_ok : fnB fi567 = true := by decide +kernel
noncomputable def fi568 : FI := ⟨Tryz.f568, []⟩
theorem fi568_ok : fnB fi568 = true := by decide +kernel
noncomputable def fi569 : FI := ⟨Tryz.f569, []⟩
theorem fi569_ok : fnB fi569 = true := by decide +kernel
noncomputable def fi570 : FI := ⟨Tryz.f570, []⟩
theorem fi570_ok : fnB fi570 = true := by decide +kernel
noncomputable def fi571 : FI := ⟨Tryz.f571, []⟩
theorem fi571_ok : fnB fi571 = true := by decide +kernel
noncomputable def fi572 : FI := ⟨Tryz.f572, []⟩
theorem fi572_ok : fnB fi572 = true := by decide +kernel
noncomputable def fi573 : FI := ⟨Tryz.f573, []⟩
theorem fi573_ok : fnB fi573 = true := by decide +kernel
noncomputable def fi574 : FI := ⟨Tryz.f574, [(17, ⟨[0, 1, 3, 7, 7, 23, 63, 127, 7, 7, 775, 1799, 4095, 8191, 16383], 0, (.h [0, 1, 2, 3, 4, 5, 6, 7, 8, 9, 10, 11] (.o 12 (.h [13, 14] .nil)))⟩)]⟩
theorem fi574_ok : fnB fi574 = true := by decide +kernel
noncomputable def fi575 : FI := ⟨Tryz.f575, [(17, ⟨[0, 1, 3, 7, 7, 23, 63, 127, 7, 7, 775, 1799, 4095, 8191, 16383], 0, (.h [0, 1, 2, 3, 4, 5, 6, 7, 8, 9, 10, 11] (.o 12 (.h [13, 14] .nil)))⟩)]⟩
theorem fi575_ok : fnB fi575 = true := by decide +kernel
noncomputable def fi576 : FI := ⟨Tryz.f576, []⟩
theorem fi576_ok : fnB fi576 = true := by decide +kernel
noncomputable def fi577 : FI := ⟨Tryz.f577, []⟩
theorem fi577_ok : fnB fi577 = true := by decide +kernel
noncomputable def fi578 : FI := ⟨Tryz.f578, [(1, ⟨[0, 0, 3, 7, 0, 0, 48, 112, 255], 0, (.h [0, 1, 2, 3, 4, 5, 6, 7] (.o 8 .nil))⟩)]⟩
theorem fi578_ok : fnB fi578 = true := by decide +kernel
noncomputable def fi579 : FI := ⟨Tryz.f579, []⟩
theorem fi579_ok : fnB fi579 = true := by decide +kernel
noncomputable def fi580 : FI := ⟨Tryz.f580, [(4, ⟨[0, 1, 0, 4, 0, 16, 0, 64, 3, 259, 783, 1807, 3903, 7999, 16383, 32767], 15872, (.h [0, 1, 2, 3, 4, 5, 6, 7, 8] (.o 9 (.h [10] (.o 11 (.h [12] (.o 13 (.h [14] (.o 15 .nil))))))))⟩)]⟩
theorem fi580_ok : fnB fi580 = true := by decide +kernel
noncomputable def fi581 : FI := ⟨Tryz.f581, []⟩
theorem fi581_ok : fnB fi581 = true := by decide +kernel
noncomputable def fi582 : FI := ⟨Tryz.f582, [(12, ⟨[0, 1, 3, 7, 0, 16, 48, 112, 0, 0, 512, 1536, 3584, 0, 16128, 32752, 65535, 131071], 32768, (.h [0, 1, 2, 3, 4, 5, 6, 7, 8, 9, 10, 11, 12, 13, 14] (.o 15 (.h [16, 17] .nil)))⟩)]⟩
theorem fi582_ok : fnB fi582 = true := by decide +kernel
noncomputable def fi583 : FI := ⟨Tryz.f583, []⟩
theorem fi583_ok : fnB fi583 = true := by decide +kernel
noncomputable def fi584 : FI := ⟨Tryz.f584, [(9, ⟨[0, 0, 0, 4, 0, 31, 63, 127, 127, 127, 0, 1279, 3583, 8191], 8, (.h [0, 1, 2, 4] (.w 3 10 (.w 5 10 (.h [6, 7, 8, 9] (.o 10 (.o 11 (.h [12, 13] .nil)))) (.o 5 (.h [6, 7, 8, 9] (.o 11 (.h [12, 13] .nil))))) (.o 3 (.o 5 (.h [6, 7, 8, 9] (.o 11 (.h [12, 13] .nil)))))))⟩)]⟩
theorem fi584_ok : fnB fi584 = true := by decide +kernel
noncomputable def fi585 : FI := ⟨Tryz.f585, [(11, ⟨[0, 0, 2, 6, 14, 0, 0, 126, 0, 256, 768, 1792, 0, 4096, 16128, 32766, 65535, 131071, 262143], 0, (.h [0, 1, 2, 3, 4, 5, 6, 7, 8, 9, 10, 11, 12, 13, 14] (.o 15 (.h [16, 17] (.o 18 .nil))))⟩), (14, ⟨[0, 0, 2, 6, 14, 0, 32, 126, 255, 511, 1023], 0, (.h [0, 1, 2, 3, 4, 5] (.o 6 (.o 7 (.h [8, 9] (.o 10 .nil)))))⟩)]⟩
theorem fi585_ok : fnB fi585 = true := by decide +kernel
noncomputable def fi586 : FI := ⟨Tryz.f586, []⟩
theorem fi586_ok : fnB fi586 = true := by decide +kernel
noncomputable def fi587 : FI := ⟨Tryz.f587, []⟩
theorem fi587_ok : fnB fi587 = true := by decide +kernel
noncomputable def fi588 : FI := ⟨Tryz.f588, []⟩
theorem fi588_ok : fnB fi588 = true := by decide +kernel
noncomputable def fi589 : FI := ⟨Tryz.f589, []⟩
theorem fi589_ok : fnB fi589 = true := by decide +kernel
noncomputable def fi590 : FI := ⟨Tryz.f590, []⟩
theorem fi590_ok : fnB fi590 = true := by decide +kernel
noncomputable def fi591 : FI := ⟨Tryz.f591, []⟩
theorem fi591_ok : fnB fi591 = true := by decide +kernel
noncomputable def fi592 : FI := ⟨Tryz.f592, []⟩
theorem fi592_ok : fnB fi592 = true := by decide +kernel
noncomputable def fi593 : FI := ⟨Tryz.f593, []⟩
theorem fi593_ok : fnB fi593 = true := by decide +kernel
noncomputable def fi594 : FI := ⟨Tryz.f594, []⟩
theorem fi594_ok : fnB fi594 = true := by decide +kernel
noncomputable def fi595 : FI := ⟨Tryz.f595, []⟩
theorem fi595_ok : fnB fi595 = true := by decide +kernel
noncomputable def fi596 : FI := ⟨Tryz.f596, []⟩
theorem fi596_ok : fnB fi596 = true := by decide +kernel
noncomputable def fi597 : FI := ⟨Tryz.f597, []⟩
theorem fi597_ok : fnB fi597 = true := by decide +kernel
noncomputable def fi598 : FI := ⟨Tryz.f598, []⟩
theorem fi598_ok : fnB fi598 = true := by decide +kernel
noncomputable def fi599 : FI := ⟨Tryz.f599, []⟩
theorem fi599_ok : fnB fi599 = true := by decide +kernel
noncomputable def fi600 : FI := ⟨Tryz.f600, []⟩
theorem fi600_ok : fnB fi600 = true := by decide +kernel
noncomputable def fi601 : FI := ⟨Tryz.f601, []⟩
theorem fi601_ok : fnB fi601 = true := by decide +kernel
noncomputable def fi602 : FI := ⟨Tryz.f602, [(4, ⟨[0, 0, 3, 7, 15, 15, 15, 111, 239, 15, 15, 1039, 3599, 7695, 16383, 32767, 65535], 0, (.h [0, 1, 2, 3, 4, 5, 6, 7, 8, 9, 10, 11, 12, 13] (.o 14 (.h [15, 16] .nil)))⟩), (6, ⟨[0, 0, 0, 0, 8, 0, 0, 64, 224, 480, 0, 0, 3072, 7168, 16355, 32739, 65535, 131071], 0, (.h [0, 1, 2, 3, 4, 5, 6, 7, 8, 9, 10, 11, 12, 13, 14] (.o 15 (.h [16] (.o 17 .nil))))⟩)]⟩
theorem fi602_ok : fnB fi602 = true := by decide +kernel
noncomputable def fi603 : FI := ⟨Tryz.f603, [(5, ⟨[0, 0, 0, 6, 14, 0, 0, 96, 224, 511, 1023], 0, (.h [0, 1, 2, 3, 4, 5, 6, 7, 8] (.o 9 (.h [10] .nil)))⟩), (11, ⟨[0, 0, 0, 0, 8, 0, 0, 64, 224, 480, 0, 0, 3072, 7168, 16355, 32739, 65535, 131071], 0, (.h [0, 1, 2, 3, 4, 5, 6, 7, 8, 9, 10, 11, 12, 13, 14] (.o 15 (.h [16] (.o 17 .nil))))⟩), (17, ⟨[0, 0, 0, 6, 14, 0, 0, 96, 224, 511, 1023, 2047], 0, (.h [0, 1, 2, 3, 4, 5, 6, 7, 8] (.o 9 (.h [10, 11] .nil)))⟩), (23, ⟨[0, 0, 0, 0, 8, 0, 0, 64, 224, 480, 0, 0, 3072, 7168, 16355, 32739, 65535, 131071], 0, (.h [0, 1, 2, 3, 4, 5, 6, 7, 8, 9, 10, 11, 12, 13, 14] (.o 15 (.h [16] (.o 17 .nil))))⟩), (35, ⟨[0, 0, 0, 0, 12, 30, 62, 0, 0, 384, 896, 2047, 4095, 8191], 0, (.h [0, 1, 2, 3, 4, 5, 6, 7, 8, 9, 10] (.o 11 (.h [12, 13] .nil)))⟩)]⟩
theorem fi603_ok : fnB fi603 = true := by decide +kernel
noncomputable def fi604 : FI := ⟨Tryz.f604, []⟩
theorem fi604_ok : fnB fi604 = true := by decide +kernel
noncomputable def fi605 : FI := ⟨Tryz.f605, []⟩
theorem fi605_ok : fnB fi605 = true := by decide +kernel
noncomputable def fi606 : FI := ⟨Tryz.f606, []⟩
theorem fi606_ok : fnB fi606 = true := by decide +kernel
noncomputable def fi607 : FI := ⟨Tryz.f607, [(5, ⟨[0, 0, 2, 6, 14, 30, 62, 126, 254, 510, 510, 2046, 4094, 8190, 16382, 32766, 65534, 65535, 262143], 262112, (.h [0, 1, 2, 3, 4] (.o 5 (.h [6, 7, 8, 9, 10, 11, 12, 13, 14] (.o 15 (.h [16] (.o 17 (.h [18] .nil)))))))⟩)]⟩
theorem fi607_ok : fnB fi607 = true := by decide +kernel
noncomputable def fi608 : FI := ⟨Tryz.f608, []⟩
theorem fi608_ok : fnB fi608 = true := by decide +kernel
noncomputable def fi609 : FI := ⟨Tryz.f609, []⟩
theorem fi609_ok : fnB fi609 = true := by decide +kernel
noncomputable def fi610 : FI := ⟨Tryz.f610, []⟩
theorem fi610_ok : fnB fi610 = true := by decide +kernel
noncomputable def fi611 : FI := ⟨Tryz.f611, []⟩
theorem fi611_ok : fnB fi611 = true := by decide +kernel
noncomputable def fi612 : FI := ⟨Tryz.f612, []⟩
theorem fi612_ok : fnB fi612 = true := by decide +kernel
noncomputable def fi613 : FI := ⟨Tryz.f613, []⟩
theorem fi613_ok : fnB fi613 = true := by decide +kernel
noncomputable def fi614 : FI := ⟨Tryz.f614, []⟩
theorem fi614_ok : fnB fi614 = true := by decide +kernel
noncomputable def fi615 : FI := ⟨Tryz.f615, []⟩
theorem fi615_ok : fnB fi615 = true := by decide +kernel
noncomputable def fi616 : FI := ⟨Tryz.f616, []⟩
theorem fi616_ok : fnB fi616 = true := by decide +kernel
noncomputable def fi617 : FI := ⟨Tryz.f617, []⟩
theorem fi617_ok : fnB fi617 = true := by decide +kernel
noncomputable def fi618 : FI := ⟨Tryz.f618, []⟩
theorem fi618_ok : fnB fi618 = true := by decide +kernel
noncomputable def fi619 : FI := ⟨Tryz.f619, [(4, ⟨[0, 0, 3, 7, 15, 15, 63, 127, 15, 15, 527, 1807, 3855, 8191, 16383], 0, (.h [0, 1, 2, 3, 4, 5, 6, 7, 8, 9, 10, 11, 12] (.o 13 (.h [14] .nil)))⟩), (6, ⟨[0, 0, 0, 0, 8, 0, 0, 64, 224, 480, 0, 0, 3072, 7168, 16355, 32739, 65535, 131071], 0, (.h [0, 1, 2, 3, 4, 5, 6, 7, 8, 9, 10, 11, 12, 13, 14] (.o 15 (.h [16] (.o 17 .nil))))⟩)]⟩
theorem fi619_ok : fnB fi619 = true := by decide +kernel
noncomputable def fi620 : FI := ⟨Tryz.f620, [(10, ⟨[0, 0, 0, 0, 0, 24, 0, 0, 0, 384, 960, 1984, 0, 0, 12288, 28672, 65475, 131011, 262143, 524287], 0, (.h [0, 1, 2, 3, 4, 5, 6, 7, 8, 9, 10, 11, 12, 13, 14, 15, 16] (.o 17 (.h [18] (.o 19 .nil))))⟩)]⟩
theorem fi620_ok : fnB fi620 = true := by decide +kernel
noncomputable def fi621 : FI := ⟨Tryz.f621, [(10, ⟨[0, 0, 0, 0, 0, 24, 0, 0, 0, 384, 960, 1984, 0, 0, 12288, 28672, 65475, 131011, 262143, 524287], 0, (.h [0, 1, 2, 3, 4, 5, 6, 7, 8, 9, 10, 11, 12, 13, 14, 15, 16] (.o 17 (.h [18] (.o 19 .nil))))⟩)]⟩
theorem fi621_ok : fnB fi621 = true := by decide +kernel
noncomputable def fi622 : FI := ⟨Tryz.f622, []⟩
theorem fi622_ok : fnB fi622 = true := by decide +kernel
noncomputable def fi623 : FI := ⟨Tryz.f623, [(3, ⟨[0, 0, 0, 0, 0, 0, 48, 112, 0, 0, 768, 1792, 4083, 8179, 16383, 32767], 0, (.h [0, 1, 2, 3, 4, 5, 6, 7, 8, 9, 10, 11, 12] (.o 13 (.h [14] (.o 15 .nil))))⟩)]⟩
theorem fi623_ok : fnB fi623 = true := by decide +kernel
noncomputable def fi624 : FI := ⟨Tryz.f624, [(5, ⟨[0, 0, 3, 7, 15, 15, 63, 127, 15, 15, 527, 1807, 3855, 8191, 16383, 32767], 0, (.h [0, 1, 2, 3, 4, 5, 6, 7, 8, 9, 10, 11, 12] (.o 13 (.h [14, 15] .nil)))⟩), (11, ⟨[0, 0, 0, 0, 8, 0, 0, 64, 224, 480, 0, 0, 3072, 7168, 16355, 32739, 65535, 131071], 0, (.h [0, 1, 2, 3, 4, 5, 6, 7, 8, 9, 10, 11, 12, 13, 14] (.o 15 (.h [16] (.o 17 .nil))))⟩), (16, ⟨[0, 0, 3, 7, 0, 0, 32, 112, 240, 511, 1023], 0, (.h [0, 1, 2, 3, 4, 5, 6, 7, 8] (.o 9 (.h [10] .nil)))⟩), (17, ⟨[0, 0, 0, 0, 8, 0, 0, 64, 224, 480, 0, 0, 3072, 7168, 16355, 32739, 65535, 131071], 0, (.h [0, 1, 2, 3, 4, 5, 6, 7, 8, 9, 10, 11, 12, 13, 14] (.o 15 (.h [16] (.o 17 .nil))))⟩), (22, ⟨[0, 0, 3, 7, 0, 0, 32, 112, 240, 511, 1023], 0, (.h [0, 1, 2, 3, 4, 5, 6, 7, 8] (.o 9 (.h [10] .nil)))⟩), (23, ⟨[0, 0, 0, 0, 8, 0, 0, 64, 224, 480, 0, 0, 3072, 7168, 16355, 32739, 65535, 131071], 0, (.h [0, 1, 2, 3, 4, 5, 6, 7, 8, 9, 10, 11, 12, 13, 14] (.o 15 (.h [16] (.o 17 .nil))))⟩)]⟩
theorem fi624_ok : fnB fi624 = true := by decide +kernel
noncomputable def fi625 : FI := ⟨Tryz.f625, []⟩
theorem fi625_ok : fnB fi625 = true := by decide +kernel
noncomputable def fi626 : FI := ⟨Tryz.f626, [(1, ⟨[0, 0, 0, 0, 0, 0, 48, 112, 0, 0, 768, 1792, 4083, 8179, 16383, 32767], 0, (.h [0, 1, 2, 3, 4, 5, 6, 7, 8, 9, 10, 11, 12] (.o 13 (.h [14] (.o 15 .nil))))⟩), (3, ⟨[0, 0, 3, 7, 15, 15, 63, 127, 15, 15, 783, 1807, 4095, 8191, 16383], 0, (.h [0, 1, 2, 3, 4, 5, 6, 7, 8, 9, 10, 11] (.o 12 (.h [13, 14] .nil)))⟩), (5, ⟨[0, 0, 3, 7, 15, 15, 63, 127, 15, 15, 783, 1807, 4095, 8191], 0, (.h [0, 1, 2, 3, 4, 5, 6, 7, 8, 9, 10, 11] (.o 12 (.h [13] .nil)))⟩), (8, ⟨[0, 0, 0, 0, 0, 0, 48, 112, 0, 0, 768, 1792, 4083, 8179, 16383, 32767], 0, (.h [0, 1, 2, 3, 4, 5, 6, 7, 8, 9, 10, 11, 12] (.o 13 (.h [14] (.o 15 .nil))))⟩)]⟩
theorem fi626_ok : fnB fi626 = true := by decide +kernel
noncomputable def fi627 : FI := ⟨Tryz.f627, [(1, ⟨[0, 0, 0, 0, 0, 0, 48, 112, 0, 0, 768, 1792, 4083, 8179, 16383, 32767], 0, (.h [0, 1, 2, 3, 4, 5, 6, 7, 8, 9, 10, 11, 12] (.o 13 (.h [14] (.o 15 .nil))))⟩), (3, ⟨[0, 0, 3, 7, 15, 15, 63, 127, 15, 15, 783, 1807, 4095, 8191], 0, (.h [0, 1, 2, 3, 4, 5, 6, 7, 8, 9, 10, 11] (.o 12 (.h [13] .nil)))⟩), (5, ⟨[0, 0, 3, 7, 15, 15, 63, 127, 15, 15, 783, 1807, 4095, 8191, 16383], 0, (.h [0, 1, 2, 3, 4, 5, 6, 7, 8, 9, 10, 11] (.o 12 (.h [13, 14] .nil)))⟩), (8, ⟨[0, 0, 0, 0, 0, 0, 48, 112, 0, 0, 768, 1792, 4083, 8179, 16383, 32767], 0, (.h [0, 1, 2, 3, 4, 5, 6, 7, 8, 9, 10, 11, 12] (.o 13 (.h [14] (.o 15 .nil))))⟩), (10, ⟨[0, 0, 0, 0, 0, 0, 48, 112, 0, 0, 768, 1792, 4083, 8179, 16383, 32767], 0, (.h [0, 1, 2, 3, 4, 5, 6, 7, 8, 9, 10, 11, 12] (.o 13 (.h [14] (.o 15 .nil))))⟩), (13, ⟨[0, 0, 3, 7, 15, 15, 63, 127, 15, 15, 783, 1807, 4095, 8191], 0, (.h [0, 1, 2, 3, 4, 5, 6, 7, 8, 9, 10, 11] (.o 12 (.h [13] .nil)))⟩), (15, ⟨[0, 0, 3, 7, 15, 15, 63, 127, 15, 15, 783, 1807, 4095, 8191, 16383], 0, (.h [0, 1, 2, 3, 4, 5, 6, 7, 8, 9, 10, 11] (.o 12 (.h [13, 14] .nil)))⟩), (18, ⟨[0, 0, 0, 0, 0, 0, 48, 112, 0, 0, 768, 1792, 4083, 8179, 16383, 32767], 0, (.h [0, 1, 2, 3, 4, 5, 6, 7, 8, 9, 10, 11, 12] (.o 13 (.h [14] (.o 15 .nil))))⟩), (21, ⟨[0, 0, 0, 0, 0, 0, 48, 112, 0, 0, 768, 1792, 4083, 8179, 16383, 32767], 0, (.h [0, 1, 2, 3, 4, 5, 6, 7, 8, 9, 10, 11, 12] (.o 13 (.h [14] (.o 15 .nil))))⟩)]⟩
theorem fi627_ok : fnB fi627 = true := by decide +kernel
noncomputable def fi628 : FI := ⟨Tryz.f628, [(4, ⟨[0, 0, 3, 7, 15, 15, 63, 127, 15, 15, 527, 1807, 3855, 8191, 16383], 0, (.h [0, 1, 2, 3, 4, 5, 6, 7, 8, 9, 10, 11, 12] (.o 13 (.h [14] .nil)))⟩), (6, ⟨[0, 0, 0, 0, 8, 0, 0, 64, 224, 480, 0, 0, 3072, 7168, 16355, 32739, 65535, 131071], 0, (.h [0, 1, 2, 3, 4, 5, 6, 7, 8, 9, 10, 11, 12, 13, 14] (.o 15 (.h [16] (.o 17 .nil))))⟩)]⟩
theorem fi628_ok : fnB fi628 = true := by decide +kernel
noncomputable def fi629 : FI := ⟨Tryz.f629, [(10, ⟨[0, 0, 0, 0, 0, 24, 0, 0, 0, 384, 960, 1984, 0, 0, 12288, 28672, 65475, 131011, 262143, 524287], 0, (.h [0, 1, 2, 3, 4, 5, 6, 7, 8, 9, 10, 11, 12, 13, 14, 15, 16] (.o 17 (.h [18] (.o 19 .nil))))⟩)]⟩
theorem fi629_ok : fnB fi629 = true := by decide +kernel
noncomputable def fi630 : FI := ⟨Tryz.f630, [(10, ⟨[0, 0, 0, 0, 0, 24, 0, 0, 0, 384, 960, 1984, 0, 0, 12288, 28672, 65475, 131011, 262143, 524287], 0, (.h [0, 1, 2, 3, 4, 5, 6, 7, 8, 9, 10, 11, 12, 13, 14, 15, 16] (.o 17 (.h [18] (.o 19 .nil))))⟩)]⟩
theorem fi630_ok : fnB fi630 = true := by decide +kernel
noncomputable def fi631 : FI := ⟨Tryz.f631, []⟩
theorem fi631_ok : fnB fi631 = true := by decide +kernel
noncomputable def fi632 : FI := ⟨Tryz.f632, [(3, ⟨[0, 0, 0, 0, 0, 0, 48, 112, 0, 0, 768, 1792, 4083, 8179, 16383, 32767], 0, (.h [0, 1, 2, 3, 4, 5, 6, 7, 8, 9, 10, 11, 12] (.o 13 (.h [14] (.o 15 .nil))))⟩)]⟩
theorem fi632_ok : fnB fi632 = true := by decide +kernel
noncomputable def fi633 : FI := ⟨Tryz.f633, [(5, ⟨[0, 0, 3, 7, 15, 15, 63, 127, 15, 15, 527, 1807, 3855, 8191, 16383, 32767], 0, (.h [0, 1, 2, 3, 4, 5, 6, 7, 8, 9, 10, 11, 12] (.o 13 (.h [14, 15] .nil)))⟩), (11, ⟨[0, 0, 0, 0, 8, 0, 0, 64, 224, 480, 0, 0, 3072, 7168, 16355, 32739, 65535, 131071], 0, (.h [0, 1, 2, 3, 4, 5, 6, 7, 8, 9, 10, 11, 12, 13, 14] (.o 15 (.h [16] (.o 17 .nil))))⟩), (16, ⟨[0, 0, 3, 7, 0, 0, 32, 112, 240, 511, 1023], 0, (.h [0, 1, 2, 3, 4, 5, 6, 7, 8] (.o 9 (.h [10] .nil)))⟩), (17, ⟨[0, 0, 0, 0, 8, 0, 0, 64, 224, 480, 0, 0, 3072, 7168, 16355, 32739, 65535, 131071], 0, (.h [0, 1, 2, 3, 4, 5, 6, 7, 8, 9, 10, 11, 12, 13, 14] (.o 15 (.h [16] (.o 17 .nil))))⟩), (22, ⟨[0, 0, 3, 7, 0, 0, 32, 112, 240, 511, 1023], 0, (.h [0, 1, 2, 3, 4, 5, 6, 7, 8] (.o 9 (.h [10] .nil)))⟩), (23, ⟨[0, 0, 0, 0, 8, 0, 0, 64, 224, 480, 0, 0, 3072, 7168, 16355, 32739, 65535, 131071], 0, (.h [0, 1, 2, 3, 4, 5, 6, 7, 8, 9, 10, 11, 12, 13, 14] (.o 15 (.h [16] (.o 17 .nil))))⟩)]⟩
theorem fi633_ok : fnB fi633 = true := by decide +kernel
noncomputable def fi634 : FI := ⟨Tryz.f634, []⟩
theorem fi634_ok : fnB fi634 = true := by decide +kernel
noncomputable def fi635 : FI := ⟨Tryz.f635, [(1, ⟨[0, 0, 0, 0, 0, 0, 48, 112, 0, 0, 768, 1792, 4083, 8179, 16383, 32767], 0, (.h [0, 1, 2, 3, 4, 5, 6, 7, 8, 9, 10, 11, 12] (.o 13 (.h [14] (.o 15 .nil))))⟩), (3, ⟨[0, 0, 3, 7, 15, 15, 63, 127, 15, 15, 783, 1807, 4095, 8191, 16383], 0, (.h [0, 1, 2, 3, 4, 5, 6, 7, 8, 9, 10, 11] (.o 12 (.h [13, 14] .nil)))⟩), (5, ⟨[0, 0, 3, 7, 15, 15, 63, 127, 15, 15, 783, 1807, 4095, 8191], 0, (.h [0, 1, 2, 3, 4, 5, 6, 7, 8, 9, 10, 11] (.o 12 (.h [13] .nil)))⟩), (8, ⟨[0, 0, 0, 0, 0, 0, 48, 112, 0, 0, 768, 1792, 4083, 8179, 16383, 32767], 0, (.h [0, 1, 2, 3, 4, 5, 6, 7, 8, 9, 10, 11, 12] (.o 13 (.h [14] (.o 15 .nil))))⟩)]⟩
theorem fi635_ok : fnB fi635 = true := by decide +kernel
noncomputable def fi636 : FI := ⟨Tryz.f636, [(1, ⟨[0, 0, 0, 0, 0, 0, 48, 112, 0, 0, 768, 1792, 4083, 8179, 16383, 32767], 0, (.h [0, 1, 2, 3, 4, 5, 6, 7, 8, 9, 10, 11, 12] (.o 13 (.h [14] (.o 15 .nil))))⟩), (3, ⟨[0, 0, 3, 7, 15, 15, 63, 127, 15, 15, 783, 1807, 4095, 8191], 0, (.h [0, 1, 2, 3, 4, 5, 6, 7, 8, 9, 10, 11] (.o 12 (.h [13] .nil)))⟩), (5, ⟨[0, 0, 3, 7, 15, 15, 63, 127, 15, 15, 783, 1807, 4095, 8191, 16383], 0, (.h [0, 1, 2, 3, 4, 5, 6, 7, 8, 9, 10, 11] (.o 12 (.h [13, 14] .nil)))⟩), (8, ⟨[0, 0, 0, 0, 0, 0, 48, 112, 0, 0, 768, 1792, 4083, 8179, 16383, 32767], 0, (.h [0, 1, 2, 3, 4, 5, 6, 7, 8, 9, 10, 11, 12] (.o 13 (.h [14] (.o 15 .nil))))⟩), (10, ⟨[0, 0, 0, 0, 0, 0, 48, 112, 0, 0, 768, 1792, 4083, 8179, 16383, 32767], 0, (.h [0, 1, 2, 3, 4, 5, 6, 7, 8, 9, 10, 11, 12] (.o 13 (.h [14] (.o 15 .nil))))⟩), (13, ⟨[0, 0, 3, 7, 15, 15, 63, 127, 15, 15, 783, 1807, 4095, 8191], 0, (.h [0, 1, 2, 3, 4, 5, 6, 7, 8, 9, 10, 11] (.o 12 (.h [13] .nil)))⟩), (15, ⟨[0, 0, 3, 7, 15, 15, 63, 127, 15, 15, 783, 1807, 4095, 8191, 16383], 0, (.h [0, 1, 2, 3, 4, 5, 6, 7, 8, 9, 10, 11] (.o 12 (.h [13, 14] .nil)))⟩), (18, ⟨[0, 0, 0, 0, 0, 0, 48, 112, 0, 0, 768, 1792, 4083, 8179, 16383, 32767], 0, (.h [0, 1, 2, 3, 4, 5, 6, 7, 8, 9, 10, 11, 12] (.o 13 (.h [14] (.o 15 .nil))))⟩), (21, ⟨[0, 0, 0, 0, 0, 0, 48, 112, 0, 0, 768, 1792, 4083, 8179, 16383, 32767], 0, (.h [0, 1, 2, 3, 4, 5, 6, 7, 8, 9, 10, 11, 12] (.o 13 (.h [14] (.o 15 .nil))))⟩)]⟩
theorem fi636_ok : fnB fi636 = true := by decide +kernel
noncomputable def fi637 : FI := ⟨Tryz.f637, []⟩
theorem fi637_ok : fnB fi637 = true := by decide +kernel
noncomputable def fi638 : FI := ⟨Tryz.f638, []⟩
theorem fi638_ok : fnB fi638 = true := by decide +kernel
noncomputable def fi639 : FI := ⟨Tryz.f639, []⟩
theorem fi639_ok : fnB fi639 = true := by decide +kernel
noncomputable def fi640 : FI := ⟨Tryz.f640, [(4, ⟨[0, 1, 0, 4, 12, 28, 63], 0, (.h [0, 1, 2, 3, 4, 5, 6] .nil)⟩)]⟩
theorem fi640_ok : fnB fi640 = true := by decide +kernel
noncomputable def fi641 : FI := ⟨Tryz.f641, [(7, ⟨[0, 0, 2, 6, 15, 0, 0, 64, 192, 480, 1023, 2047], 0, (.h [0, 1, 2, 3, 4, 5, 6, 7, 8, 9, 10, 11] .nil)⟩)]⟩
theorem fi641_ok : fnB fi641 = true := by decide +kernel
noncomputable def fi642 : FI := ⟨Tryz.f642, [(9, ⟨[0, 1, 3, 0, 8, 0, 32, 96, 248, 504, 1016, 2047, 0, 0, 16383, 32767, 65535, 65535, 131071, 524287], 0, (.h [0, 1, 2, 3, 4, 5, 6, 7, 8, 9, 10, 11, 12, 13] (.o 14 (.h [15, 16, 17] (.o 18 (.h [19] .nil)))))⟩)]⟩
theorem fi642_ok : fnB fi642 = true := by decide +kernel
noncomputable def fi643 : FI := ⟨Tryz.f643, []⟩
theorem fi643_ok : fnB fi643 = true := by decide +kernel
noncomputable def fi644 : FI := ⟨Tryz.f644, []⟩
theorem fi644_ok : fnB fi644 = true := by decide +kernel
noncomputable def fi645 : FI := ⟨Tryz.f645, []⟩
theorem fi645_ok : fnB fi645 = true := by decide +kernel
noncomputable def fi646 : FI := ⟨Tryz.f646, []⟩
theorem fi646_ok : fnB fi646 = true := by decide +kernel
noncomputable def fi647 : FI := ⟨Tryz.f647, []⟩
theorem fi647_ok : fnB fi647 = true := by decide +kernel
noncomputable def fi648 : FI := ⟨Tryz.f648, []⟩
theorem fi648_ok : fnB fi648 = true := by decide +kernel
noncomputable def fi649 : FI := ⟨Tryz.f649, [(15, ⟨[0, 1, 3, 7, 0, 16, 48, 112, 255, 511, 1023], 0, (.h [0, 1, 2, 3, 4, 5, 6, 7, 8, 9, 10] .nil)⟩), (16, ⟨[0, 1, 3, 7, 0, 16, 48, 112, 0, 0, 0, 1024, 3584, 8176, 16383, 32767, 65535, 65535, 131071, 524287], 0, (.h [0, 1, 2, 3, 4, 5, 6, 7, 8, 9, 10, 11, 12, 13] (.o 14 (.h [15, 16, 17, 18, 19] .nil)))⟩), (19, ⟨[0, 1, 3, 7, 0, 16, 48, 112, 0, 511, 1023], 128, (.h [0, 1, 2, 3, 4, 5, 6, 8] (.o 7 (.o 9 (.h [10] .nil))))⟩)]⟩
theorem fi649_ok : fnB fi649 = true := by decide +kernel
noncomputable def fi650 : FI := ⟨Tryz.f650, []⟩
theorem fi650_ok : fnB fi650 = true := by decide +kernel
noncomputable def fi653 : FI := ⟨Tryz.f653, []⟩
theorem fi653_ok : fnB fi653 = true := by decide +kernel
noncomputable def fi654 : FI := ⟨Tryz.f654, []⟩
theorem fi654_ok : fnB fi654 = true := by decide +kernel
noncomputable def fi655 : FI := ⟨Tryz.f655, [(0, ⟨[0, 1, 3, 0, 8, 31], 0, (.h [0, 1, 2, 3] (.o 4 (.o 5 .nil)))⟩)]⟩
theorem fi655_ok : fnB fi655 = true := by decide +kernel
noncomputable def fi656 : FI := ⟨Tryz.f656, [(3, ⟨[0, 1, 0, 7, 15, 31, 31, 31, 223, 511, 1023, 31, 31, 31, 12319, 28703, 63519, 129055, 262143, 524287], 0, (.h [0, 1, 2, 3, 4, 5, 6, 7, 8, 9, 10, 11, 12, 13, 14, 15, 16, 17] (.o 18 (.h [19] .nil)))⟩), (5, ⟨[0, 0, 0, 6, 15, 31, 0, 0, 0, 384, 960, 1984, 4095, 8191], 0, (.h [0, 1, 2, 3, 4, 5, 6, 7, 8, 9, 10, 11] (.o 12 (.h [13] .nil)))⟩), (6, ⟨[0, 0, 0, 6, 0, 0, 0, 96, 0, 0, 0, 1536, 3840, 7936, 0, 0, 0, 98304, 245760, 507904, 1048335, 2096911, 4194303, 8388607], 0, (.h [0, 1, 2, 3, 4, 5, 6, 7, 8, 9, 10, 11, 12, 13, 14, 15, 16, 17, 18, 19, 20] (.o 21 (.h [22] (.o 23 .nil))))⟩)]⟩
theorem fi656_ok : fnB fi656 = true := by decide +kernel
noncomputable def fi657 : FI := ⟨Tryz.f657, []⟩
theorem fi657_ok : fnB fi657 = true := by decide +kernel
noncomputable def fi658 : FI := ⟨Tryz.f658, []⟩
theorem fi658_ok : fnB fi658 = true := by decide +kernel
noncomputable def fi659 : FI := ⟨Tryz.f659, []⟩
theorem fi659_ok : fnB fi659 = true := by decide +kernel
noncomputable def fi660 : FI := ⟨Tryz.f660, [(3, ⟨[0, 1, 0, 7, 15, 31, 31, 31, 223, 511, 1023, 31, 31, 31, 12319, 28703, 63519, 129055, 262143, 524287], 0, (.h [0, 1, 2, 3, 4, 5, 6, 7, 8, 9, 10, 11, 12, 13, 14, 15, 16, 17] (.o 18 (.h [19] .nil)))⟩), (5, ⟨[0, 0, 0, 6, 15, 31, 0, 0, 0, 384, 960, 1984, 4095, 8191], 0, (.h [0, 1, 2, 3, 4, 5, 6, 7, 8, 9, 10, 11] (.o 12 (.h [13] .nil)))⟩), (6, ⟨[0, 0, 0, 6, 0, 0, 0, 96, 0, 0, 0, 1536, 3840, 7936, 0, 0, 0, 98304, 245760, 507904, 1048335, 2096911, 4194303, 8388607], 0, (.h [0, 1, 2, 3, 4, 5, 6, 7, 8, 9, 10, 11, 12, 13, 14, 15, 16, 17, 18, 19, 20] (.o 21 (.h [22] (.o 23 .nil))))⟩)]⟩
theorem fi660_ok : fnB fi660 = true := by decide +kernel
noncomputable def fi661 : FI := ⟨Tryz.f661, []⟩
theorem fi661_ok : fnB fi661 = true := by decide +kernel
noncomputable def fi662 : FI := ⟨Tryz.f662, []⟩
theorem fi662_ok : fnB fi662 = true := by decide +kernel
noncomputable def fi663 : FI := ⟨Tryz.f663, [(8, ⟨[0, 0, 3, 0, 0, 16, 56, 127], 0, (.h [0, 1, 2, 3, 4, 5, 6] (.o 7 .nil))⟩), (11, ⟨[0, 1, 3, 7, 0, 16, 63, 127, 255, 511], 0, (.h [0, 1, 2, 3, 4, 5, 6, 7, 8] (.o 9 .nil))⟩)]⟩
theorem fi663_ok : fnB fi663 = true := by decide +kernel
noncomputable def fi664 : FI := ⟨Tryz.f664, []⟩
theorem fi664_ok : fnB fi664 = true := by decide +kernel
end Go.Proofs.YtjdebeibhnjbgaaGreat
