/- A runner's tables: types. -/
import Derived.Test.YtkbpafbbogjifaaGreatBZp0
namespace Go.Proofs.YtkbpafbbogjifaaGreat
open Go Go.Proofs.Rn
theorem ty575 : tyB Tryz.prog 575 ⟨2, 32, [ns, np], (.st [(0, 115, 1), (1, 574, 1)]), true⟩ = true := by decide +kernel
theorem ty576 : tyB Tryz.prog 576 ⟨2, 32, [ns, np], (.st [(0, 115, 1), (1, 574, 1)]), true⟩ = true := by decide +kernel
theorem ty577 : tyB Tryz.prog 577 ⟨1, 8, [nf], .fn, false⟩ = true := by decide +kernel
theorem ty578 : tyB Tryz.prog 578 ⟨1, 8, [nf], .fn, false⟩ = true := by decide +kernel
theorem ty579 : tyB Tryz.prog 579 ⟨1, 24, [ns], (.st [(0, 115, 1)]), true⟩ = true := by decide +kernel
theorem ty580 : tyB Tryz.prog 580 ⟨1, 24, [ns], (.st [(0, 115, 1)]), true⟩ = true := by decide +kernel
theorem ty581 : tyB Tryz.prog 581 ⟨1, 8, [nf], .fn, false⟩ = true := by decide +kernel
theorem ty582 : tyB Tryz.prog 582 ⟨1, 8, [nf], .fn, false⟩ = true := by decide +kernel
theorem ty583 : tyB Tryz.prog 583 ⟨1, 8, [nf], .fn, false⟩ = true := by decide +kernel
theorem ty585 : tyB Tryz.prog 585 ⟨1, 8, [nf], .fn, false⟩ = true := by decide +kernel
theorem ty586 : tyB Tryz.prog 586 ⟨5, 40, [.i .i64 0, .i .i64 0, .i .i64 0, .i .i64 0, .i .i64 0], (.arr 5 3), true⟩ = true := by decide +kernel
theorem ty587 : tyB Tryz.prog 587 ⟨1, 8, [nf], .fn, false⟩ = true := by decide +kernel
theorem ty589 : tyB Tryz.prog 589 ⟨1, 8, [nf], .fn, false⟩ = true := by decide +kernel
theorem ty590 : tyB Tryz.prog 590 ⟨1, 8, [nf], .fn, false⟩ = true := by decide +kernel
theorem ty591 : tyB Tryz.prog 591 ⟨1, 8, [nf], .fn, false⟩ = true := by decide +kernel
theorem ty593 : tyB Tryz.prog 593 ⟨1, 8, [nf], .fn, false⟩ = true := by decide +kernel
theorem ty595 : tyB Tryz.prog 595 ⟨1, 8, [nf], .fn, false⟩ = true := by decide +kernel
theorem ty596 : tyB Tryz.prog 596 ⟨1, 8, [nf], .fn, false⟩ = true := by decide +kernel
theorem ty597 : tyB Tryz.prog 597 ⟨1, 8, [nf], .fn, false⟩ = true := by decide +kernel
theorem ty598 : tyB Tryz.prog 598 ⟨1, 8, [nf], .fn, false⟩ = true := by decide +kernel
theorem ty599 : tyB Tryz.prog 599 ⟨1, 8, [nf], .fn, false⟩ = true := by decide +kernel
theorem ty600 : tyB Tryz.prog 600 ⟨1, 8, [nf], .fn, false⟩ = true := by decide +kernel
theorem ty602 : tyB Tryz.prog 602 ⟨1, 8, [nf], .fn, false⟩ = true := by decide +kernel
theorem ty603 : tyB Tryz.prog 603 ⟨1, 8, [nf], .fn, false⟩ = true := by decide +kernel
theorem ty604 : tyB Tryz.prog 604 ⟨1, 8, [nf], .fn, false⟩ = true := by decide +kernel
theorem ty606 : tyB Tryz.prog 606 ⟨1, 8, [nf], .fn, false⟩ = true := by decide +kernel
theorem ty607 : tyB Tryz.prog 607 ⟨1, 8, [nf], .fn, false⟩ = true := by decide +kernel
theorem ty608 : tyB Tryz.prog 608 ⟨1, 8, [nf], .fn, false⟩ = true := by decide +kernel
theorem ty609 : tyB Tryz.prog 609 ⟨1, 8, [nf], .fn, false⟩ = true := by decide +kernel
theorem ty610 : tyB Tryz.prog 610 ⟨1, 8, [nf], .fn, false⟩ = true := by decide +kernel
theorem ty611 : tyB Tryz.prog 611 ⟨1, 8, [nf], .fn, false⟩ = true := by decide +kernel
theorem ty612 : tyB Tryz.prog 612 ⟨1, 8, [nf], .fn, false⟩ = true := by decide +kernel
theorem ty613 : tyB Tryz.prog 613 ⟨1, 8, [nf], .fn, false⟩ = true := by decide +kernel
theorem ty614 : tyB Tryz.prog 614 ⟨1, 8, [nf], .fn, false⟩ = true := by decide +kernel
theorem ty615 : tyB Tryz.prog 615 ⟨1, 8, [nf], .fn, false⟩ = true := by decide +kernel
theorem ty616 : tyB Tryz.prog 616 ⟨1, 8, [nf], .fn, false⟩ = true := by decide +kernel
theorem ty617 : tyB Tryz.prog 617 ⟨1, 8, [nf], .fn, false⟩ = true := by decide +kernel
theorem ty618 : tyB Tryz.prog 618 ⟨1, 8, [nf], .fn, false⟩ = true := by decide +kernel
theorem ty619 : tyB Tryz.prog 619 ⟨1, 8, [nf], .fn, false⟩ = true := by decide +kernel
theorem ty620 : tyB Tryz.prog 620 ⟨1, 8, [nf], .fn, false⟩ = true := by decide +kernel
theorem ty621 : tyB Tryz.prog 621 ⟨1, 8, [nf], .fn, false⟩ = true := by decide +kernel
theorem ty622 : tyB Tryz.prog 622 ⟨1, 8, [nf], .fn, false⟩ = true := by decide +kernel
theorem ty623 : tyB Tryz.prog 623 ⟨1, 8, [nf], .fn, false⟩ = true := by decide +kernel
theorem ty624 : tyB Tryz.prog 624 ⟨1, 8, [nf], .fn, false⟩ = true := by decide +kernel
theorem ty625 : tyB Tryz.prog 625 ⟨1, 8, [nf], .fn, false⟩ = true := by decide +kernel
theorem ty626 : tyB Tryz.prog 626 ⟨1, 8, [nf], .fn, false⟩ = true := by decide +kernel
theorem ty627 : tyB Tryz.prog 627 ⟨1, 8, [nf], .fn, false⟩ = true := by decide +kernel
theorem ty628 : tyB Tryz.prog 628 ⟨1, 8, [nf], .fn, false⟩ = true := by decide +kernel
theorem ty629 : tyB Tryz.prog 629 ⟨1, 8, [nf], .fn, false⟩ = true := by decide +kernel
theorem ty630 : tyB Tryz.prog 630 ⟨1, 8, [nf], .fn, false⟩ = true := by decide +kernel
theorem ty631 : tyB Tryz.prog 631 ⟨1, 8, [nf], .fn, false⟩ = true := by decide +kernel
theorem ty632 : tyB Tryz.prog 632 ⟨1, 8, [nf], .fn, false⟩ = true := by decide +kernel
theorem ty633 : tyB Tryz.prog 633 ⟨16, 16, [.i .u8 0, .i .u8 0, .i .u8 0, .i .u8 0, .i .u8 0, .i .u8 0, .i .u8 0, .i .u8 0, .i .u8 0, .i .u8 0, .i .u8 0, .i .u8 0, .i .u8 0, .i .u8 0, .i .u8 0, .i .u8 0], (.arr 16 5), true⟩ = true := by decide +kernel
theorem ty634 : tyB Tryz.prog 634 ⟨7, 56, [.i .u32 0, .i .i32 0, .i .u32 0, .i .u32 0, .i .i64 0, nf, ns], (.st [(0, 496, 3), (3, 490, 1), (4, 498, 1), (5, 578, 1), (6, 349, 1)]), true⟩ = true := by decide +kernel
theorem ty635 : tyB Tryz.prog 635 ⟨7, 56, [.i .u32 0, .i .i32 0, .i .u32 0, .i .u32 0, .i .i64 0, nf, ns], (.st [(0, 496, 3), (3, 490, 1), (4, 498, 1), (5, 578, 1), (6, 349, 1)]), true⟩ = true := by decide +kernel
theorem ty637 : tyB Tryz.prog 637 ⟨1, 8, [nf], .fn, false⟩ = true := by decide +kernel
theorem ty638 : tyB Tryz.prog 638 ⟨1, 8, [nf], .fn, false⟩ = true := by decide +kernel
theorem ty639 : tyB Tryz.prog 639 ⟨1, 8, [nf], .fn, false⟩ = true := by decide +kernel
theorem ty640 : tyB Tryz.prog 640 ⟨1, 8, [nf], .fn, false⟩ = true := by decide +kernel
theorem ty641 : tyB Tryz.prog 641 ⟨1, 8, [nf], .fn, false⟩ = true := by decide +kernel
theorem ty642 : tyB Tryz.prog 642 ⟨1, 8, [nf], .fn, false⟩ = true := by decide +kernel
theorem ty643 : tyB Tryz.prog 643 ⟨1, 8, [nf], .fn, false⟩ = true := by decide +kernel
theorem ty644 : tyB Tryz.prog 644 ⟨4, 32, [.i .i64 0, .i .i64 0, .i .i64 0, .i .i64 0], (.st [(0, 3, 1), (1, 2, 1), (2, 2, 1), (3, 2, 1)]), true⟩ = true := by decide +kernel
theorem ty645 : tyB Tryz.prog 645 ⟨4, 32, [.i .i64 0, .i .i64 0, .i .i64 0, .i .i64 0], (.st [(0, 3, 1), (1, 2, 1), (2, 2, 1), (3, 2, 1)]), true⟩ = true := by decide +kernel
theorem ty647 : tyB Tryz.prog 647 ⟨1, 8, [nf], .fn, false⟩ = true := by decide +kernel
theorem ty648 : tyB Tryz.prog 648 ⟨1, 8, [nf], .fn, false⟩ = true := by decide +kernel
theorem ty649 : tyB Tryz.prog 649 ⟨1, 8, [nf], .fn, false⟩ = true := by decide +kernel
theorem ty651 : tyB Tryz.prog 651 ⟨1, 8, [nf], .fn, false⟩ = true := by decide +kernel
theorem ty652 : tyB Tryz.prog 652 ⟨1, 8, [nf], .fn, false⟩ = true := by decide +kernel
theorem ty653 : tyB Tryz.prog 653 ⟨1, 8, [nf], .fn, false⟩ = true := by decide +kernel
theorem ty654 : tyB Tryz.prog 654 ⟨1, 8, [nf], .fn, false⟩ = true := by decide +kernel
theorem ty655 : tyB Tryz.prog 655 ⟨1, 8, [nf], .fn, false⟩ = true := by decide +kernel
theorem ty656 : tyB Tryz.prog 656 ⟨1, 8, [nf], .fn, false⟩ = true := by decide +kernel
theorem ty657 : tyB Tryz.prog 657 ⟨1, 8, [nf], .fn, false⟩ = true := by decide +kernel
theorem ty658 : tyB Tryz.prog 658 ⟨1, 24, [ns], (.sl 4), false⟩ = true := by decide +kernel
theorem ty659 : tyB Tryz.prog 659 ⟨1, 8, [nf], .fn, false⟩ = true := by decide +kernel
theorem ty660 : tyB Tryz.prog 660 ⟨1, 8, [nf], .fn, false⟩ = true := by decide +kernel
theorem ty661 : tyB Tryz.prog 661 ⟨1, 8, [.i .i64 0], (.int .i64), false⟩ = true := by decide +kernel
theorem ty663 : tyB Tryz.prog 663 ⟨1, 8, [nf], .fn, false⟩ = true := by decide +kernel
theorem ty664 : tyB Tryz.prog 664 ⟨1, 8, [nf], .fn, false⟩ = true := by decide +kernel
theorem ty665 : tyB Tryz.prog 665 ⟨1, 8, [nf], .fn, false⟩ = true := by decide +kernel
theorem ty666 : tyB Tryz.prog 666 ⟨1, 8, [nf], .fn, false⟩ = true := by decide +kernel
theorem ty667 : tyB Tryz.prog 667 ⟨1, 8, [nf], .fn, false⟩ = true := by decide +kernel
theorem ty668 : tyB Tryz.prog 668 ⟨1, 8, [nf], .fn, false⟩ = true := by decide +kernel
theorem ty669 : tyB Tryz.prog 669 ⟨1, 8, [nf], .fn, false⟩ = true := by decide +kernel
theorem ty670 : tyB Tryz.prog 670 ⟨1, 8, [nf], .fn, false⟩ = true := by decide +kernel
theorem ty671 : tyB Tryz.prog 671 ⟨1, 8, [nf], .fn, false⟩ = true := by decide +kernel
theorem ty672 : tyB Tryz.prog 672 ⟨1, 8, [nf], .fn, false⟩ = true := by decide +kernel
theorem ty673 : tyB Tryz.prog 673 ⟨1, 8, [nf], .fn, false⟩ = true := by decide +kernel
theorem ty674 : tyB Tryz.prog 674 ⟨1, 8, [nf], .fn, false⟩ = true := by decide +kernel
theorem ty675 : tyB Tryz.prog 675 ⟨1, 8, [nf], .fn, false⟩ = true := by decide +kernel
theorem ty677 : tyB Tryz.prog 677 ⟨1, 8, [nf], .fn, false⟩ = true := by decide +kernel
theorem ty678 : tyB Tryz.prog 678 ⟨1, 8, [nf], .fn, false⟩ = true := by decide +kernel
theorem ty679 : tyB Tryz.prog 679 ⟨1, 8, [nf], .fn, false⟩ = true := by decide +kernel
theorem ty680 : tyB Tryz.prog 680 ⟨1, 8, [nf], .fn, false⟩ = true := by decide +kernel
theorem ty681 : tyB Tryz.prog 681 ⟨1, 8, [nf], .fn, false⟩ = true := by decide +kernel
theorem ty682 : tyB Tryz.prog 682 ⟨1, 8, [nf], .fn, false⟩ = true := by decide +kernel
theorem ty683 : tyB Tryz.prog 683 ⟨1, 8, [np], .ptr, false⟩ = true := by decide +kernel
theorem ty684 : tyB Tryz.prog 684 ⟨1, 8, [nf], .fn, false⟩ = true := by decide +kernel
theorem ty685 : tyB Tryz.prog 685 ⟨1, 8, [np], .ptr, false⟩ = true := by decide +kernel
theorem ty686 : tyB Tryz.prog 686 ⟨1, 8, [np], .ptr, false⟩ = true := by decide +kernel
theorem ty687 : tyB Tryz.prog 687 ⟨1, 8, [nf], .fn, false⟩ = true := by decide +kernel
theorem ty688 : tyB Tryz.prog 688 ⟨1, 8, [nf], .fn, false⟩ = true := by decide +kernel
theorem ty690 : tyB Tryz.prog 690 ⟨1, 8, [nf], .fn, false⟩ = true := by decide +kernel
theorem ty691 : tyB Tryz.prog 691 ⟨1, 8, [nf], .fn, false⟩ = true := by decide +kernel
theorem ty692 : tyB Tryz.prog 692 ⟨1, 8, [.i .u64 0], (.int .u64), false⟩ = true := by decide +kernel
theorem ty693 : tyB Tryz.prog 693 ⟨1, 8, [nf], .fn, false⟩ = true := by decide +kernel
theorem ty694 : tyB Tryz.prog 694 ⟨1, 8, [nf], .fn, false⟩ = true := by decide +kernel
theorem ty695 : tyB Tryz.prog 695 ⟨1, 8, [np], .ptr, false⟩ = true := by decide +kernel
theorem ty696 : tyB Tryz.prog 696 ⟨1, 8, [nf], .fn, false⟩ = true := by decide +kernel
theorem ty697 : tyB Tryz.prog 697 ⟨1, 8, [nf], .fn, false⟩ = true := by decide +kernel
theorem ty698 : tyB Tryz.prog 698 ⟨1, 8, [nf], .fn, false⟩ = true := by decide +kernel
theorem ty699 : tyB Tryz.prog 699 ⟨1, 8, [nf], .fn, false⟩ = true := by decide +kernel
theorem ty700 : tyB Tryz.prog 700 ⟨1, 8, [nf], .fn, false⟩ = true := by decide +kernel
theorem ty701 : tyB Tryz.prog 701 ⟨1, 8, [np], .ptr, false⟩ = true := by decide +kernel
theorem ty703 : tyB Tryz.prog 703 ⟨1, 8, [nf], .fn, false⟩ = true := by decide +kernel
theorem ty704 : tyB Tryz.prog 704 ⟨1, 8, [nf], .fn, false⟩ = true := by decide +kernel
theorem ty705 : tyB Tryz.prog 705 ⟨1, 8, [nf], .fn, false⟩ = true := by decide +kernel
theorem ty706 : tyB Tryz.prog 706 ⟨1, 8, [nf], .fn, false⟩ = true := by decide +kernel
theorem ty707 : tyB Tryz.prog 707 ⟨1, 8, [nf], .fn, false⟩ = true := by decide +kernel
theorem ty708 : tyB Tryz.prog 708 ⟨1, 8, [nf], .fn, false⟩ = true := by decide +kernel
theorem ty709 : tyB Tryz.prog 709 ⟨1, 8, [nf], .fn, false⟩ = true := by decide +kernel
theorem ty710 : tyB Tryz.prog 710 ⟨1, 8, [np], .ptr, false⟩ = true := by decide +kernel
theorem ty711 : tyB Tryz.prog 711 ⟨1, 8, [nf], .fn, false⟩ = true := by decide +kernel
theorem ty712 : tyB Tryz.prog 712 ⟨1, 8, [np], .ptr, false⟩ = true := by decide +kernel
theorem ty713 : tyB Tryz.prog 713 ⟨1, 8, [nf], .fn, false⟩ = true := by decide +kernel
theorem ty714 : tyB Tryz.prog 714 ⟨1, 8, [nf], .fn, false⟩ = true := by decide +kernel
theorem ty715 : tyB Tryz.prog 715 ⟨1, 8, [np], .ptr, false⟩ = true := by decide +kernel
theorem ty716 : tyB Tryz.prog 716 ⟨1, 8, [nf], .fn, false⟩ = true := by decide +kernel
theorem ty717 : tyB Tryz.prog 717 ⟨1, 8, [nf], .fn, false⟩ = true := by decide +kernel
end Go.Proofs.YtkbpafbbogjifaaGreat
