/- A runner's tables: types. -/
import Derived.Test.YtkbpafbbogjifaaGreatBZp0
namespace Go.Proofs.YtkbpafbbogjifaaGreat
open Go Go.Proofs.Rn
theorem ty718 : tyB Tryz.prog 718 ⟨1, 8, [nf], .fn, false⟩ = true := by decide +kernel
theorem ty719 : tyB Tryz.prog 719 ⟨1, 8, [np], .ptr, false⟩ = true := by decide +kernel
theorem ty720 : tyB Tryz.prog 720 ⟨1, 8, [nf], .fn, false⟩ = true := by decide +kernel
theorem ty721 : tyB Tryz.prog 721 ⟨1, 8, [nf], .fn, false⟩ = true := by decide +kernel
theorem ty722 : tyB Tryz.prog 722 ⟨1, 8, [nf], .fn, false⟩ = true := by decide +kernel
theorem ty723 : tyB Tryz.prog 723 ⟨1, 8, [np], .ptr, false⟩ = true := by decide +kernel
theorem ty724 : tyB Tryz.prog 724 ⟨1, 8, [nf], .fn, false⟩ = true := by decide +kernel
theorem ty725 : tyB Tryz.prog 725 ⟨1, 8, [nf], .fn, false⟩ = true := by decide +kernel
theorem ty726 : tyB Tryz.prog 726 ⟨1, 8, [np], .ptr, false⟩ = true := by decide +kernel
theorem ty727 : tyB Tryz.prog 727 ⟨1, 8, [nf], .fn, false⟩ = true := by decide +kernel
theorem ty728 : tyB Tryz.prog 728 ⟨1, 8, [np], .ptr, false⟩ = true := by decide +kernel
theorem ty729 : tyB Tryz.prog 729 ⟨1, 8, [nf], .fn, false⟩ = true := by decide +kernel
theorem ty730 : tyB Tryz.prog 730 ⟨1, 8, [np], .o, false⟩ = true := by decide +kernel
theorem ty731 : tyB Tryz.prog 731 ⟨1, 8, [nf], .fn, false⟩ = true := by decide +kernel
theorem ty732 : tyB Tryz.prog 732 ⟨1, 8, [nf], .fn, false⟩ = true := by decide +kernel
theorem ty733 : tyB Tryz.prog 733 ⟨1, 8, [nf], .fn, false⟩ = true := by decide +kernel
theorem ty734 : tyB Tryz.prog 734 ⟨1, 8, [nf], .fn, false⟩ = true := by decide +kernel
theorem ty735 : tyB Tryz.prog 735 ⟨1, 8, [nf], .fn, false⟩ = true := by decide +kernel
theorem ty736 : tyB Tryz.prog 736 ⟨4, 40, [np, np, np, .s []], (.st [(0, 17, 1), (1, 17, 1), (2, 17, 1), (3, 9, 1)]), false⟩ = true := by decide +kernel
theorem ty737 : tyB Tryz.prog 737 ⟨4, 40, [np, np, np, .s []], (.st [(0, 17, 1), (1, 17, 1), (2, 17, 1), (3, 9, 1)]), false⟩ = true := by decide +kernel
theorem ty738 : tyB Tryz.prog 738 ⟨0, 0, [], (.arr 0 16), true⟩ = true := by decide +kernel
theorem ty739 : tyB Tryz.prog 739 ⟨0, 0, [], (.st [(0, 738, 0)]), false⟩ = true := by decide +kernel
theorem ty740 : tyB Tryz.prog 740 ⟨0, 0, [], (.st [(0, 738, 0)]), false⟩ = true := by decide +kernel
theorem ty741 : tyB Tryz.prog 741 ⟨1, 1, [.i .u8 0], (.int .u8), false⟩ = true := by decide +kernel
theorem ty742 : tyB Tryz.prog 742 ⟨1, 1, [.i .u8 0], (.int .u8), false⟩ = true := by decide +kernel
theorem ty743 : tyB Tryz.prog 743 ⟨1, 8, [nf], .fn, false⟩ = true := by decide +kernel
theorem ty744 : tyB Tryz.prog 744 ⟨1, 8, [np], .ptr, false⟩ = true := by decide +kernel
theorem ty745 : tyB Tryz.prog 745 ⟨1, 4, [.i .i32 0], (.int .i32), false⟩ = true := by decide +kernel
theorem ty746 : tyB Tryz.prog 746 ⟨1, 4, [.i .i32 0], (.int .i32), false⟩ = true := by decide +kernel
theorem ty747 : tyB Tryz.prog 747 ⟨11, 48, [.i .u64 0, .i .u64 0, .i .u32 0, .i .u8 0, .i .u8 0, .i .u8 0, .i .u8 0, nf, np, .i .i32 0, .i .i32 0], (.st [(0, 12, 1), (1, 12, 1), (2, 485, 1), (3, 741, 1), (4, 5, 1), (5, 5, 1), (6, 742, 1), (7, 743, 1), (8, 744, 1), (9, 745, 1), (10, 746, 1)]), false⟩ = true := by decide +kernel
theorem ty748 : tyB Tryz.prog 748 ⟨11, 48, [.i .u64 0, .i .u64 0, .i .u32 0, .i .u8 0, .i .u8 0, .i .u8 0, .i .u8 0, nf, np, .i .i32 0, .i .i32 0], (.st [(0, 12, 1), (1, 12, 1), (2, 485, 1), (3, 741, 1), (4, 5, 1), (5, 5, 1), (6, 742, 1), (7, 743, 1), (8, 744, 1), (9, 745, 1), (10, 746, 1)]), false⟩ = true := by decide +kernel
theorem ty749 : tyB Tryz.prog 749 ⟨1, 2, [.i .u16 0], (.int .u16), false⟩ = true := by decide +kernel
theorem ty750 : tyB Tryz.prog 750 ⟨2, 8, [.i .u16 0, .i .u32 0], (.st [(0, 749, 1), (1, 485, 1)]), true⟩ = true := by decide +kernel
theorem ty751 : tyB Tryz.prog 751 ⟨2, 8, [.i .u16 0, .i .u32 0], (.st [(0, 749, 1), (1, 485, 1)]), true⟩ = true := by decide +kernel
end Go.Proofs.YtkbpafbbogjifaaGreat
