/- A runner's tables: types. -/
import Derived.Test.YtjdebeibhnjbgaaGreatBZp0
namespace Go.Proofs.YtjdebeibhnjbgaaGreat
open Go Go.Proofs.Rn
theorem ty715 : tyB Tryz.prog 715 ⟨1, 8, [np], .ptr, false⟩ = true := by decide +kernel
theorem ty716 : tyB Tryz.prog 716 ⟨2, 32, [ns, np], (.st [(0, 23, 1), (1, 715, 1)]), true⟩ = true := by decide +kernel
theorem ty717 : tyB Tryz.prog 717 ⟨2, 32, [ns, np], (.st [(0, 23, 1), (1, 715, 1)]), true⟩ = true := by decide +kernel
theorem ty718 : tyB Tryz.prog 718 ⟨1, 8, [nf], .fn, false⟩ = true := by decide +kernel
theorem ty719 : tyB Tryz.prog 719 ⟨1, 8, [nf], .fn, false⟩ = true := by decide +kernel
theorem ty720 : tyB Tryz.prog 720 ⟨1, 24, [ns], (.st [(0, 23, 1)]), true⟩ = true := by decide +kernel
theorem ty721 : tyB Tryz.prog 721 ⟨1, 24, [ns], (.st [(0, 23, 1)]), true⟩ = true := by decide +kernel
theorem ty722 : tyB Tryz.prog 722 ⟨1, 8, [nf], .fn, false⟩ = true := by decide +kernel
theorem ty723 : tyB Tryz.prog 723 ⟨1, 8, [nf], .fn, false⟩ = true := by decide +kernel
theorem ty724 : tyB Tryz.prog 724 ⟨1, 8, [nf], .fn, false⟩ = true := by decide +kernel
theorem ty725 : tyB Tryz.prog 725 ⟨1, 8, [nf], .fn, false⟩ = true := by decide +kernel
theorem ty727 : tyB Tryz.prog 727 ⟨1, 8, [nf], .fn, false⟩ = true := by decide +kernel
theorem ty728 : tyB Tryz.prog 728 ⟨1, 8, [nf], .fn, false⟩ = true := by decide +kernel
theorem ty729 : tyB Tryz.prog 729 ⟨1, 8, [nf], .fn, false⟩ = true := by decide +kernel
theorem ty730 : tyB Tryz.prog 730 ⟨1, 8, [nf], .fn, false⟩ = true := by decide +kernel
theorem ty731 : tyB Tryz.prog 731 ⟨1, 8, [nf], .fn, false⟩ = true := by decide +kernel
theorem ty733 : tyB Tryz.prog 733 ⟨1, 8, [nf], .fn, false⟩ = true := by decide +kernel
theorem ty734 : tyB Tryz.prog 734 ⟨1, 8, [nf], .fn, false⟩ = true := by decide +kernel
theorem ty736 : tyB Tryz.prog 736 ⟨1, 8, [nf], .fn, false⟩ = true := by decide +kernel
theorem ty737 : tyB Tryz.prog 737 ⟨1, 8, [nf], .fn, false⟩ = true := by decide +kernel
theorem ty739 : tyB Tryz.prog 739 ⟨1, 8, [nf], .fn, false⟩ = true := by decide +kernel
theorem ty740 : tyB Tryz.prog 740 ⟨1, 8, [nf], .fn, false⟩ = true := by decide +kernel
theorem ty741 : tyB Tryz.prog 741 ⟨1, 8, [nf], .fn, false⟩ = true := by decide +kernel
theorem ty742 : tyB Tryz.prog 742 ⟨1, 8, [nf], .fn, false⟩ = true := by decide +kernel
theorem ty743 : tyB Tryz.prog 743 ⟨1, 8, [nf], .fn, false⟩ = true := by decide +kernel
theorem ty744 : tyB Tryz.prog 744 ⟨1, 8, [nf], .fn, false⟩ = true := by decide +kernel
theorem ty745 : tyB Tryz.prog 745 ⟨1, 8, [nf], .fn, false⟩ = true := by decide +kernel
theorem ty746 : tyB Tryz.prog 746 ⟨1, 8, [nf], .fn, false⟩ = true := by decide +kernel
theorem ty747 : tyB Tryz.prog 747 ⟨1, 8, [nf], .fn, false⟩ = true := by decide +kernel
theorem ty748 : tyB Tryz.prog 748 ⟨1, 8, [nf], .fn, false⟩ = true := by decide +kernel
theorem ty749 : tyB Tryz.prog 749 ⟨1, 8, [np], .ptr, false⟩ = true := by decide +kernel
theorem ty750 : tyB Tryz.prog 750 ⟨1, 8, [nf], .fn, false⟩ = true := by decide +kernel
theorem ty751 : tyB Tryz.prog 751 ⟨4, 32, [.i .i64 0, .i .i64 0, .i .i64 0, .i .i64 0], (.st [(0, 3, 1), (1, 2, 1), (2, 2, 1), (3, 2, 1)]), true⟩ = true := by decide +kernel
theorem ty752 : tyB Tryz.prog 752 ⟨4, 32, [.i .i64 0, .i .i64 0, .i .i64 0, .i .i64 0], (.st [(0, 3, 1), (1, 2, 1), (2, 2, 1), (3, 2, 1)]), true⟩ = true := by decide +kernel
theorem ty754 : tyB Tryz.prog 754 ⟨1, 8, [nf], .fn, false⟩ = true := by decide +kernel
theorem ty755 : tyB Tryz.prog 755 ⟨1, 8, [nf], .fn, false⟩ = true := by decide +kernel
theorem ty756 : tyB Tryz.prog 756 ⟨1, 8, [nf], .fn, false⟩ = true := by decide +kernel
theorem ty758 : tyB Tryz.prog 758 ⟨1, 8, [nf], .fn, false⟩ = true := by decide +kernel
theorem ty759 : tyB Tryz.prog 759 ⟨1, 8, [nf], .fn, false⟩ = true := by decide +kernel
theorem ty760 : tyB Tryz.prog 760 ⟨1, 8, [nf], .fn, false⟩ = true := by decide +kernel
theorem ty761 : tyB Tryz.prog 761 ⟨1, 8, [nf], .fn, false⟩ = true := by decide +kernel
theorem ty762 : tyB Tryz.prog 762 ⟨1, 8, [nf], .fn, false⟩ = true := by decide +kernel
theorem ty763 : tyB Tryz.prog 763 ⟨1, 8, [nf], .fn, false⟩ = true := by decide +kernel
theorem ty764 : tyB Tryz.prog 764 ⟨16, 16, [.i .u8 0, .i .u8 0, .i .u8 0, .i .u8 0, .i .u8 0, .i .u8 0, .i .u8 0, .i .u8 0, .i .u8 0, .i .u8 0, .i .u8 0, .i .u8 0, .i .u8 0, .i .u8 0, .i .u8 0, .i .u8 0], (.arr 16 5), true⟩ = true := by decide +kernel
theorem ty765 : tyB Tryz.prog 765 ⟨1, 8, [nf], .fn, false⟩ = true := by decide +kernel
theorem ty766 : tyB Tryz.prog 766 ⟨7, 56, [.i .u32 0, .i .i32 0, .i .u32 0, .i .u32 0, .i .i64 0, nf, ns], (.st [(0, 667, 3), (3, 661, 1), (4, 669, 1), (5, 719, 1), (6, 447, 1)]), true⟩ = true := by decide +kernel
theorem ty767 : tyB Tryz.prog 767 ⟨7, 56, [.i .u32 0, .i .i32 0, .i .u32 0, .i .u32 0, .i .i64 0, nf, ns], (.st [(0, 667, 3), (3, 661, 1), (4, 669, 1), (5, 719, 1), (6, 447, 1)]), true⟩ = true := by decide +kernel
theorem ty768 : tyB Tryz.prog 768 ⟨1, 8, [nf], .fn, false⟩ = true := by decide +kernel
theorem ty769 : tyB Tryz.prog 769 ⟨1, 8, [nf], .fn, false⟩ = true := by decide +kernel
theorem ty770 : tyB Tryz.prog 770 ⟨1, 8, [nf], .fn, false⟩ = true := by decide +kernel
theorem ty771 : tyB Tryz.prog 771 ⟨1, 8, [nf], .fn, false⟩ = true := by decide +kernel
theorem ty772 : tyB Tryz.prog 772 ⟨1, 8, [nf], .fn, false⟩ = true := by decide +kernel
theorem ty773 : tyB Tryz.prog 773 ⟨1, 8, [nf], .fn, false⟩ = true := by decide +kernel
theorem ty774 : tyB Tryz.prog 774 ⟨1, 8, [nf], .fn, false⟩ = true := by decide +kernel
theorem ty775 : tyB Tryz.prog 775 ⟨1, 8, [nf], .fn, false⟩ = true := by decide +kernel
theorem ty776 : tyB Tryz.prog 776 ⟨1, 8, [nf], .fn, false⟩ = true := by decide +kernel
theorem ty777 : tyB Tryz.prog 777 ⟨1, 8, [nf], .fn, false⟩ = true := by decide +kernel
theorem ty778 : tyB Tryz.prog 778 ⟨1, 8, [nf], .fn, false⟩ = true := by decide +kernel
theorem ty779 : tyB Tryz.prog 779 ⟨1, 8, [nf], .fn, false⟩ = true := by decide +kernel
theorem ty780 : tyB Tryz.prog 780 ⟨1, 8, [nf], .fn, false⟩ = true := by decide +kernel
theorem ty781 : tyB Tryz.prog 781 ⟨1, 8, [nf], .fn, false⟩ = true := by decide +kernel
theorem ty782 : tyB Tryz.prog 782 ⟨1, 8, [nf], .fn, false⟩ = true := by decide +kernel
theorem ty783 : tyB Tryz.prog 783 ⟨1, 8, [nf], .fn, false⟩ = true := by decide +kernel
theorem ty784 : tyB Tryz.prog 784 ⟨1, 8, [nf], .fn, false⟩ = true := by decide +kernel
theorem ty785 : tyB Tryz.prog 785 ⟨1, 8, [nf], .fn, false⟩ = true := by decide +kernel
theorem ty786 : tyB Tryz.prog 786 ⟨1, 8, [nf], .fn, false⟩ = true := by decide +kernel
theorem ty787 : tyB Tryz.prog 787 ⟨1, 8, [nf], .fn, false⟩ = true := by decide +kernel
theorem ty788 : tyB Tryz.prog 788 ⟨1, 8, [nf], .fn, false⟩ = true := by decide +kernel
theorem ty789 : tyB Tryz.prog 789 ⟨1, 8, [nf], .fn, false⟩ = true := by decide +kernel
theorem ty790 : tyB Tryz.prog 790 ⟨1, 8, [nf], .fn, false⟩ = true := by decide +kernel
theorem ty791 : tyB Tryz.prog 791 ⟨1, 8, [nf], .fn, false⟩ = true := by decide +kernel
theorem ty792 : tyB Tryz.prog 792 ⟨1, 8, [nf], .fn, false⟩ = true := by decide +kernel
theorem ty793 : tyB Tryz.prog 793 ⟨1, 8, [nf], .fn, false⟩ = true := by decide +kernel
theorem ty794 : tyB Tryz.prog 794 ⟨1, 8, [nf], .fn, false⟩ = true := by decide +kernel
theorem ty795 : tyB Tryz.prog 795 ⟨1, 8, [nf], .fn, false⟩ = true := by decide +kernel
theorem ty797 : tyB Tryz.prog 797 ⟨1, 8, [nf], .fn, false⟩ = true := by decide +kernel
theorem ty798 : tyB Tryz.prog 798 ⟨1, 8, [nf], .fn, false⟩ = true := by decide +kernel
theorem ty800 : tyB Tryz.prog 800 ⟨1, 8, [nf], .fn, false⟩ = true := by decide +kernel
theorem ty801 : tyB Tryz.prog 801 ⟨1, 8, [nf], .fn, false⟩ = true := by decide +kernel
theorem ty802 : tyB Tryz.prog 802 ⟨1, 8, [np], .ptr, false⟩ = true := by decide +kernel
theorem ty803 : tyB Tryz.prog 803 ⟨1, 8, [nf], .fn, false⟩ = true := by decide +kernel
theorem ty804 : tyB Tryz.prog 804 ⟨1, 8, [np], .ptr, false⟩ = true := by decide +kernel
theorem ty805 : tyB Tryz.prog 805 ⟨1, 8, [np], .ptr, false⟩ = true := by decide +kernel
theorem ty806 : tyB Tryz.prog 806 ⟨1, 8, [nf], .fn, false⟩ = true := by decide +kernel
theorem ty807 : tyB Tryz.prog 807 ⟨1, 8, [nf], .fn, false⟩ = true := by decide +kernel
theorem ty808 : tyB Tryz.prog 808 ⟨1, 8, [nf], .fn, false⟩ = true := by decide +kernel
theorem ty809 : tyB Tryz.prog 809 ⟨1, 8, [nf], .fn, false⟩ = true := by decide +kernel
theorem ty810 : tyB Tryz.prog 810 ⟨1, 8, [np], .ptr, false⟩ = true := by decide +kernel
theorem ty812 : tyB Tryz.prog 812 ⟨1, 8, [nf], .fn, false⟩ = true := by decide +kernel
theorem ty813 : tyB Tryz.prog 813 ⟨1, 8, [np], .ptr, false⟩ = true := by decide +kernel
theorem ty814 : tyB Tryz.prog 814 ⟨1, 8, [nf], .fn, false⟩ = true := by decide +kernel
theorem ty815 : tyB Tryz.prog 815 ⟨1, 8, [np], .ptr, false⟩ = true := by decide +kernel
theorem ty816 : tyB Tryz.prog 816 ⟨1, 8, [nf], .fn, false⟩ = true := by decide +kernel
theorem ty817 : tyB Tryz.prog 817 ⟨1, 8, [nf], .fn, false⟩ = true := by decide +kernel
theorem ty818 : tyB Tryz.prog 818 ⟨1, 8, [nf], .fn, false⟩ = true := by decide +kernel
theorem ty819 : tyB Tryz.prog 819 ⟨1, 8, [nf], .fn, false⟩ = true := by decide +kernel
theorem ty820 : tyB Tryz.prog 820 ⟨1, 8, [nf], .fn, false⟩ = true := by decide +kernel
theorem ty821 : tyB Tryz.prog 821 ⟨1, 8, [nf], .fn, false⟩ = true := by decide +kernel
theorem ty822 : tyB Tryz.prog 822 ⟨1, 8, [np], .ptr, false⟩ = true := by decide +kernel
theorem ty823 : tyB Tryz.prog 823 ⟨1, 8, [nf], .fn, false⟩ = true := by decide +kernel
theorem ty824 : tyB Tryz.prog 824 ⟨1, 8, [np], .ptr, false⟩ = true := by decide +kernel
theorem ty825 : tyB Tryz.prog 825 ⟨1, 8, [nf], .fn, false⟩ = true := by decide +kernel
theorem ty826 : tyB Tryz.prog 826 ⟨1, 8, [np], .ptr, false⟩ = true := by decide +kernel
theorem ty827 : tyB Tryz.prog 827 ⟨1, 8, [nf], .fn, false⟩ = true := by decide +kernel
theorem ty828 : tyB Tryz.prog 828 ⟨1, 8, [np], .ptr, false⟩ = true := by decide +kernel
theorem ty829 : tyB Tryz.prog 829 ⟨1, 8, [nf], .fn, false⟩ = true := by decide +kernel
theorem ty830 : tyB Tryz.prog 830 ⟨1, 8, [np], .o, false⟩ = true := by decide +kernel
theorem ty831 : tyB Tryz.prog 831 ⟨1, 8, [nf], .fn, false⟩ = true := by decide +kernel
theorem ty832 : tyB Tryz.prog 832 ⟨1, 8, [nf], .fn, false⟩ = true := by decide +kernel
theorem ty833 : tyB Tryz.prog 833 ⟨1, 8, [nf], .fn, false⟩ = true := by decide +kernel
theorem ty834 : tyB Tryz.prog 834 ⟨1, 8, [nf], .fn, false⟩ = true := by decide +kernel
theorem ty835 : tyB Tryz.prog 835 ⟨4, 40, [np, np, np, .s []], (.st [(0, 17, 1), (1, 17, 1), (2, 17, 1), (3, 9, 1)]), false⟩ = true := by decide +kernel
theorem ty836 : tyB Tryz.prog 836 ⟨4, 40, [np, np, np, .s []], (.st [(0, 17, 1), (1, 17, 1), (2, 17, 1), (3, 9, 1)]), false⟩ = true := by decide +kernel
theorem ty837 : tyB Tryz.prog 837 ⟨0, 0, [], (.arr 0 16), true⟩ = true := by decide +kernel
theorem ty838 : tyB Tryz.prog 838 ⟨0, 0, [], (.st [(0, 837, 0)]), false⟩ = true := by decide +kernel
theorem ty839 : tyB Tryz.prog 839 ⟨0, 0, [], (.st [(0, 837, 0)]), false⟩ = true := by decide +kernel
theorem ty840 : tyB Tryz.prog 840 ⟨1, 1, [.i .u8 0], (.int .u8), false⟩ = true := by decide +kernel
theorem ty841 : tyB Tryz.prog 841 ⟨1, 1, [.i .u8 0], (.int .u8), false⟩ = true := by decide +kernel
theorem ty842 : tyB Tryz.prog 842 ⟨1, 8, [nf], .fn, false⟩ = true := by decide +kernel
theorem ty843 : tyB Tryz.prog 843 ⟨1, 8, [np], .ptr, false⟩ = true := by decide +kernel
theorem ty844 : tyB Tryz.prog 844 ⟨1, 4, [.i .i32 0], (.int .i32), false⟩ = true := by decide +kernel
theorem ty845 : tyB Tryz.prog 845 ⟨1, 4, [.i .i32 0], (.int .i32), false⟩ = true := by decide +kernel
theorem ty846 : tyB Tryz.prog 846 ⟨11, 48, [.i .u64 0, .i .u64 0, .i .u32 0, .i .u8 0, .i .u8 0, .i .u8 0, .i .u8 0, nf, np, .i .i32 0, .i .i32 0], (.st [(0, 12, 1), (1, 12, 1), (2, 191, 1), (3, 840, 1), (4, 5, 1), (5, 5, 1), (6, 841, 1), (7, 842, 1), (8, 843, 1), (9, 844, 1), (10, 845, 1)]), false⟩ = true := by decide +kernel
theorem ty847 : tyB Tryz.prog 847 ⟨11, 48, [.i .u64 0, .i .u64 0, .i .u32 0, .i .u8 0, .i .u8 0, .i .u8 0, .i .u8 0, nf, np, .i .i32 0, .i .i32 0], (.st [(0, 12, 1), (1, 12, 1), (2, 191, 1), (3, 840, 1), (4, 5, 1), (5, 5, 1), (6, 841, 1), (7, 842, 1), (8, 843, 1), (9, 844, 1), (10, 845, 1)]), false⟩ = true := by decide +kernel
end Go.Proofs.YtjdebeibhnjbgaaGreat
