/- A runner's tables: functions. -/
import Derived.Test.YtjdebeibhnjbgaaGreatBc
import Derived.Test.YtjdebeibhnjbgaaGreatProg
namespace Go.Proofs.YtjdebeibhnjbgaaGreat
open Go Go.Proofs.Rn
noncomputable def fi665 : FI := ⟨Tryz.f665, [(5, ⟨[0, 1, 3, 7, 0, 16, 63, 127, 255, 511], 0, (.h [0, 1, 2, 3, 4, 5, 6, 7, 8] (.o 9 .nil))⟩), (9, ⟨[0, 1, 3, 7, 0, 16, 63], 0, (.h [0, 1, 2, 3, 4, 5] (.o 6 .nil))⟩)]⟩
theorem fi665_ok : fnB fi665 = true := by decide +kernel
noncomputable def fi666 : FI := ⟨Tryz.f666, [(5, ⟨[0, 0, 0, 7, 0, 16, 48, 112, 0, 0, 0, 1024, 4095, 8191, 16383, 32767], 8, (.h [0, 1, 2, 4, 5, 6, 7, 8, 9, 10, 11] (.o 3 (.o 12 (.h [13, 14, 15] .nil))))⟩)]⟩
theorem fi666_ok : fnB fi666 = true := by decide +kernel
noncomputable def fi667 : FI := ⟨Tryz.f667, []⟩
theorem fi667_ok : fnB fi667 = true := by decide +kernel
noncomputable def fi668 : FI := ⟨Tryz.f668, []⟩
theorem fi668_ok : fnB fi668 = true := by decide +kernel
noncomputable def fi669 : FI := ⟨Tryz.f669, []⟩
theorem fi669_ok : fnB fi669 = true := by decide +kernel
noncomputable def fi670 : FI := ⟨Tryz.f670, [(3, ⟨[0, 0, 0, 6, 0, 0, 0, 96, 0, 0, 0, 1536, 3840, 7936, 0, 0, 0, 98304, 245760, 507904, 1048335, 2096911, 4194303, 8388607], 0, (.h [0, 1, 2, 3, 4, 5, 6, 7, 8, 9, 10, 11, 12, 13, 14, 15, 16, 17, 18, 19, 20] (.o 21 (.h [22] (.o 23 .nil))))⟩)]⟩
theorem fi670_ok : fnB fi670 = true := by decide +kernel
noncomputable def fi672 : FI := ⟨Tryz.f672, []⟩
theorem fi672_ok : fnB fi672 = true := by decide +kernel
noncomputable def fi673 : FI := ⟨Tryz.f673, []⟩
theorem fi673_ok : fnB fi673 = true := by decide +kernel
noncomputable def fi675 : FI := ⟨Tryz.f675, []⟩
theorem fi675_ok : fnB fi675 = true := by decide +kernel
noncomputable def fi676 : FI := ⟨Tryz.f676, [(1, ⟨[0, 0, 3, 7, 0, 0, 48, 112, 255], 0, (.h [0, 1, 2, 3, 4, 5, 6, 7] (.o 8 .nil))⟩)]⟩
theorem fi676_ok : fnB fi676 = true := by decide +kernel
noncomputable def fi677 : FI := ⟨Tryz.f677, [(1, ⟨[0, 0, 3, 7, 0, 0, 48, 112, 255], 0, (.h [0, 1, 2, 3, 4, 5, 6, 7] (.o 8 .nil))⟩)]⟩
theorem fi677_ok : fnB fi677 = true := by decide +kernel
noncomputable def fi678 : FI := ⟨Tryz.f678, []⟩
theorem fi678_ok : fnB fi678 = true := by decide +kernel
noncomputable def fi679 : FI := ⟨Tryz.f679, []⟩
theorem fi679_ok : fnB fi679 = true := by decide +kernel
noncomputable def fi682 : FI := ⟨Tryz.f682, []⟩
theorem fi682_ok : fnB fi682 = true := by decide +kernel
noncomputable def fi683 : FI := ⟨Tryz.f683, []⟩
theorem fi683_ok : fnB fi683 = true := by decide +kernel
noncomputable def fi684 : FI := ⟨Tryz.f684, []⟩
theorem fi684_ok : fnB fi684 = true := by decide +kernel
noncomputable def fi689 : FI := ⟨Tryz.f689, []⟩
theorem fi689_ok : fnB fi689 = true := by decide +kernel
noncomputable def fi692 : FI := ⟨Tryz.f692, []⟩
theorem fi692_ok : fnB fi692 = true := by decide +kernel
noncomputable def fi693 : FI := ⟨Tryz.f693, []⟩
theorem fi693_ok : fnB fi693 = true := by decide +kernel
end Go.Proofs.YtjdebeibhnjbgaaGreat
