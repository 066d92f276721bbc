/- A runner's tables: types. -/
import Derived.Test.YtkbpafbbogjifaaGreatBZp0
namespace Go.Proofs.YtkbpafbbogjifaaGreat
open Go Go.Proofs.Rn
theorem ty1 : tyB Tryz.prog 1 ⟨1, 8, [nf], .fn, false⟩ = true := by decide +kernel
theorem ty2 : tyB Tryz.prog 2 ⟨1, 8, [.i .i64 0], (.int .i64), false⟩ = true := by decide +kernel
theorem ty3 : tyB Tryz.prog 3 ⟨1, 8, [.i .i64 0], (.int .i64), false⟩ = true := by decide +kernel
theorem ty4 : tyB Tryz.prog 4 ⟨1, 1, [.b false], .bool, false⟩ = true := by decide +kernel
theorem ty5 : tyB Tryz.prog 5 ⟨1, 1, [.i .u8 0], (.int .u8), false⟩ = true := by decide +kernel
theorem ty6 : tyB Tryz.prog 6 ⟨1, 1, [.i .u8 0], (.int .u8), false⟩ = true := by decide +kernel
theorem ty7 : tyB Tryz.prog 7 ⟨4, 24, [.i .i64 0, .i .i64 0, .b false, .i .u8 0], (.st [(0, 2, 1), (1, 3, 1), (2, 4, 1), (3, 6, 1)]), true⟩ = true := by decide +kernel
theorem ty8 : tyB Tryz.prog 8 ⟨4, 24, [.i .i64 0, .i .i64 0, .b false, .i .u8 0], (.st [(0, 2, 1), (1, 3, 1), (2, 4, 1), (3, 6, 1)]), true⟩ = true := by decide +kernel
theorem ty9 : tyB Tryz.prog 9 ⟨1, 16, [.s []], .str, false⟩ = true := by decide +kernel
theorem ty10 : tyB Tryz.prog 10 ⟨1, 16, [.s []], .str, false⟩ = true := by decide +kernel
theorem ty11 : tyB Tryz.prog 11 ⟨1, 16, [.s []], .str, false⟩ = true := by decide +kernel
theorem ty12 : tyB Tryz.prog 12 ⟨1, 8, [.i .u64 0], (.int .u64), false⟩ = true := by decide +kernel
theorem ty13 : tyB Tryz.prog 13 ⟨2, 24, [.s [], .i .u64 0], (.st [(0, 9, 1), (1, 12, 1)]), false⟩ = true := by decide +kernel
theorem ty14 : tyB Tryz.prog 14 ⟨2, 24, [.s [], .i .u64 0], (.st [(0, 9, 1), (1, 12, 1)]), false⟩ = true := by decide +kernel
theorem ty15 : tyB Tryz.prog 15 ⟨1, 8, [np], .ptr, false⟩ = true := by decide +kernel
theorem ty16 : tyB Tryz.prog 16 ⟨1, 8, [np], .ptr, false⟩ = true := by decide +kernel
theorem ty17 : tyB Tryz.prog 17 ⟨1, 8, [np], .ptr, false⟩ = true := by decide +kernel
theorem ty18 : tyB Tryz.prog 18 ⟨1, 8, [np], (.st [(0, 17, 1)]), false⟩ = true := by decide +kernel
theorem ty19 : tyB Tryz.prog 19 ⟨1, 8, [np], (.st [(0, 17, 1)]), false⟩ = true := by decide +kernel
theorem ty20 : tyB Tryz.prog 20 ⟨1, 16, [ni], .o, false⟩ = true := by decide +kernel
theorem ty21 : tyB Tryz.prog 21 ⟨1, 4, [.i .i32 0], (.int .i32), false⟩ = true := by decide +kernel
theorem ty22 : tyB Tryz.prog 22 ⟨1, 8, [.i .u64 0], (.int .u64), false⟩ = true := by decide +kernel
theorem ty23 : tyB Tryz.prog 23 ⟨1, 24, [ns], (.sl 136), false⟩ = true := by decide +kernel
theorem ty24 : tyB Tryz.prog 24 ⟨1, 24, [ns], (.sl 3), false⟩ = true := by decide +kernel
theorem ty25 : tyB Tryz.prog 25 ⟨1, 24, [ns], (.sl 5), false⟩ = true := by decide +kernel
theorem ty26 : tyB Tryz.prog 26 ⟨4, 64, [.i .u64 0, .i .u64 0, ns, ns], (.st [(0, 22, 1), (1, 22, 1), (2, 24, 1), (3, 25, 1)]), true⟩ = true := by decide +kernel
theorem ty27 : tyB Tryz.prog 27 ⟨4, 64, [.i .u64 0, .i .u64 0, ns, ns], (.st [(0, 22, 1), (1, 22, 1), (2, 24, 1), (3, 25, 1)]), true⟩ = true := by decide +kernel
theorem ty28 : tyB Tryz.prog 28 ⟨15, 160, [.i .i64 0, .i .i64 0, .i .i64 0, .i .u64 0, .i .u64 0, .i .u64 0, .i .u64 0, .i .u64 0, .b false, .b false, ns, .i .u64 0, .i .u64 0, ns, ns], (.st [(0, 3, 1), (1, 3, 1), (2, 3, 1), (3, 22, 1), (4, 22, 1), (5, 22, 1), (6, 22, 1), (7, 22, 1), (8, 4, 1), (9, 4, 1), (10, 23, 1), (11, 27, 4)]), true⟩ = true := by decide +kernel
theorem ty29 : tyB Tryz.prog 29 ⟨15, 160, [.i .i64 0, .i .i64 0, .i .i64 0, .i .u64 0, .i .u64 0, .i .u64 0, .i .u64 0, .i .u64 0, .b false, .b false, ns, .i .u64 0, .i .u64 0, ns, ns], (.st [(0, 3, 1), (1, 3, 1), (2, 3, 1), (3, 22, 1), (4, 22, 1), (5, 22, 1), (6, 22, 1), (7, 22, 1), (8, 4, 1), (9, 4, 1), (10, 23, 1), (11, 27, 4)]), true⟩ = true := by decide +kernel
theorem ty30 : tyB Tryz.prog 30 ⟨1, 24, [ns], (.sl 751), false⟩ = true := by decide +kernel
theorem ty31 : tyB Tryz.prog 31 ⟨23, 272, [.i .i64 0, .i .i64 0, .i .i64 0, .i .u64 0, .i .u64 0, .i .i64 0, .i .i64 0, .i .i64 0, .i .u64 0, .i .u64 0, .i .u64 0, .i .u64 0, .i .u64 0, .b false, .b false, ns, .i .u64 0, .i .u64 0, ns, ns, ns, ns, ns], (.st [(0, 3, 1), (1, 3, 1), (2, 2, 1), (3, 22, 1), (4, 22, 1), (5, 29, 15), (20, 24, 1), (21, 25, 1), (22, 30, 1)]), true⟩ = true := by decide +kernel
theorem ty32 : tyB Tryz.prog 32 ⟨23, 272, [.i .i64 0, .i .i64 0, .i .i64 0, .i .u64 0, .i .u64 0, .i .i64 0, .i .i64 0, .i .i64 0, .i .u64 0, .i .u64 0, .i .u64 0, .i .u64 0, .i .u64 0, .b false, .b false, ns, .i .u64 0, .i .u64 0, ns, ns, ns, ns, ns], (.st [(0, 3, 1), (1, 3, 1), (2, 2, 1), (3, 22, 1), (4, 22, 1), (5, 29, 15), (20, 24, 1), (21, 25, 1), (22, 30, 1)]), true⟩ = true := by decide +kernel
theorem ty33 : tyB Tryz.prog 33 ⟨1, 8, [nf], .fn, false⟩ = true := by decide +kernel
theorem ty34 : tyB Tryz.prog 34 ⟨1, 24, [ns], (.sl 32), false⟩ = true := by decide +kernel
theorem ty35 : tyB Tryz.prog 35 ⟨1, 8, [nf], .fn, false⟩ = true := by decide +kernel
theorem ty36 : tyB Tryz.prog 36 ⟨1, 8, [np], .ptr, false⟩ = true := by decide +kernel
theorem ty37 : tyB Tryz.prog 37 ⟨1, 8, [np], .ptr, false⟩ = true := by decide +kernel
theorem ty38 : tyB Tryz.prog 38 ⟨1, 8, [nf], .fn, false⟩ = true := by decide +kernel
theorem ty39 : tyB Tryz.prog 39 ⟨1, 8, [.i .i64 0], (.int .i64), false⟩ = true := by decide +kernel
theorem ty41 : tyB Tryz.prog 41 ⟨1, 8, [nf], .fn, false⟩ = true := by decide +kernel
theorem ty42 : tyB Tryz.prog 42 ⟨4, 48, [.i .i64 0, ns, .i .i64 0, .i .i64 0], (.st [(0, 3, 1), (1, 24, 1), (2, 3, 1), (3, 3, 1)]), true⟩ = true := by decide +kernel
theorem ty43 : tyB Tryz.prog 43 ⟨4, 48, [.i .i64 0, ns, .i .i64 0, .i .i64 0], (.st [(0, 3, 1), (1, 24, 1), (2, 3, 1), (3, 3, 1)]), true⟩ = true := by decide +kernel
theorem ty44 : tyB Tryz.prog 44 ⟨5, 56, [.i .i64 0, ns, .i .i64 0, .i .i64 0, .i .i64 0], (.st [(0, 43, 4), (4, 3, 1)]), true⟩ = true := by decide +kernel
theorem ty45 : tyB Tryz.prog 45 ⟨5, 56, [.i .i64 0, ns, .i .i64 0, .i .i64 0, .i .i64 0], (.st [(0, 43, 4), (4, 3, 1)]), true⟩ = true := by decide +kernel
theorem ty46 : tyB Tryz.prog 46 ⟨1, 8, [nf], .fn, false⟩ = true := by decide +kernel
theorem ty47 : tyB Tryz.prog 47 ⟨1, 8, [nf], .fn, false⟩ = true := by decide +kernel
theorem ty48 : tyB Tryz.prog 48 ⟨1, 24, [ns], (.sl 29), false⟩ = true := by decide +kernel
theorem ty49 : tyB Tryz.prog 49 ⟨1, 24, [ns], (.sl 323), false⟩ = true := by decide +kernel
theorem ty50 : tyB Tryz.prog 50 ⟨1, 24, [ns], (.sl 86), false⟩ = true := by decide +kernel
theorem ty51 : tyB Tryz.prog 51 ⟨1, 24, [ns], (.sl 210), false⟩ = true := by decide +kernel
theorem ty52 : tyB Tryz.prog 52 ⟨1, 24, [ns], (.sl 134), false⟩ = true := by decide +kernel
theorem ty53 : tyB Tryz.prog 53 ⟨5, 120, [ns, ns, ns, ns, ns], (.st [(0, 48, 1), (1, 49, 1), (2, 50, 1), (3, 51, 1), (4, 52, 1)]), true⟩ = true := by decide +kernel
theorem ty54 : tyB Tryz.prog 54 ⟨5, 120, [ns, ns, ns, ns, ns], (.st [(0, 48, 1), (1, 49, 1), (2, 50, 1), (3, 51, 1), (4, 52, 1)]), true⟩ = true := by decide +kernel
theorem ty55 : tyB Tryz.prog 55 ⟨1, 8, [nf], .fn, false⟩ = true := by decide +kernel
theorem ty56 : tyB Tryz.prog 56 ⟨1, 8, [np], .ptr, false⟩ = true := by decide +kernel
theorem ty57 : tyB Tryz.prog 57 ⟨1, 8, [np], .ptr, false⟩ = true := by decide +kernel
theorem ty58 : tyB Tryz.prog 58 ⟨1, 24, [ns], (.sl 126), false⟩ = true := by decide +kernel
theorem ty59 : tyB Tryz.prog 59 ⟨1, 24, [ns], (.sl 132), false⟩ = true := by decide +kernel
theorem ty60 : tyB Tryz.prog 60 ⟨2, 16, [.i .u64 0, .i .u64 0], (.st [(0, 22, 1), (1, 22, 1)]), true⟩ = true := by decide +kernel
theorem ty61 : tyB Tryz.prog 61 ⟨16, 256, [.i .i64 0, ns, .i .i64 0, .i .i64 0, .i .i64 0, np, np, ns, ns, .i .u64 0, .i .u64 0, ns, ns, ns, ns, ns], (.st [(0, 45, 5), (5, 56, 1), (6, 57, 1), (7, 58, 1), (8, 59, 1), (9, 60, 2), (11, 54, 5)]), true⟩ = true := by decide +kernel
theorem ty62 : tyB Tryz.prog 62 ⟨16, 256, [.i .i64 0, ns, .i .i64 0, .i .i64 0, .i .i64 0, np, np, ns, ns, .i .u64 0, .i .u64 0, ns, ns, ns, ns, ns], (.st [(0, 45, 5), (5, 56, 1), (6, 57, 1), (7, 58, 1), (8, 59, 1), (9, 60, 2), (11, 54, 5)]), true⟩ = true := by decide +kernel
theorem ty63 : tyB Tryz.prog 63 ⟨1, 24, [ns], (.sl 36), false⟩ = true := by decide +kernel
theorem ty65 : tyB Tryz.prog 65 ⟨1, 8, [nf], .fn, false⟩ = true := by decide +kernel
theorem ty66 : tyB Tryz.prog 66 ⟨1, 8, [nf], .fn, false⟩ = true := by decide +kernel
theorem ty67 : tyB Tryz.prog 67 ⟨1, 8, [nf], .fn, false⟩ = true := by decide +kernel
theorem ty68 : tyB Tryz.prog 68 ⟨1, 8, [nf], .fn, false⟩ = true := by decide +kernel
theorem ty69 : tyB Tryz.prog 69 ⟨1, 8, [nf], .fn, false⟩ = true := by decide +kernel
theorem ty70 : tyB Tryz.prog 70 ⟨1, 8, [nf], .fn, false⟩ = true := by decide +kernel
theorem ty71 : tyB Tryz.prog 71 ⟨1, 24, [ns], (.sl 54), false⟩ = true := by decide +kernel
theorem ty72 : tyB Tryz.prog 72 ⟨1, 8, [nf], .fn, false⟩ = true := by decide +kernel
theorem ty73 : tyB Tryz.prog 73 ⟨1, 8, [nf], .fn, false⟩ = true := by decide +kernel
theorem ty74 : tyB Tryz.prog 74 ⟨9, 88, [.i .i64 0, .i .i64 0, .i .i64 0, .i .u64 0, .i .u64 0, .i .u64 0, .i .u64 0, .i .u64 0, ns], (.st [(0, 3, 1), (1, 3, 1), (2, 3, 1), (3, 22, 1), (4, 22, 1), (5, 22, 1), (6, 22, 1), (7, 22, 1), (8, 24, 1)]), true⟩ = true := by decide +kernel
theorem ty75 : tyB Tryz.prog 75 ⟨9, 88, [.i .i64 0, .i .i64 0, .i .i64 0, .i .u64 0, .i .u64 0, .i .u64 0, .i .u64 0, .i .u64 0, ns], (.st [(0, 3, 1), (1, 3, 1), (2, 3, 1), (3, 22, 1), (4, 22, 1), (5, 22, 1), (6, 22, 1), (7, 22, 1), (8, 24, 1)]), true⟩ = true := by decide +kernel
theorem ty76 : tyB Tryz.prog 76 ⟨1, 8, [nf], .fn, false⟩ = true := by decide +kernel
theorem ty77 : tyB Tryz.prog 77 ⟨1, 8, [nf], .fn, false⟩ = true := by decide +kernel
theorem ty78 : tyB Tryz.prog 78 ⟨1, 8, [nf], .fn, false⟩ = true := by decide +kernel
theorem ty79 : tyB Tryz.prog 79 ⟨1, 8, [nf], .fn, false⟩ = true := by decide +kernel
theorem ty80 : tyB Tryz.prog 80 ⟨9, 72, [.i .u64 0, .i .i64 0, .i .i64 0, .i .i64 0, .i .u64 0, .i .i64 0, .i .i64 0, .i .i64 0, .i .i64 0], (.st [(0, 22, 1), (1, 3, 1), (2, 3, 1), (3, 3, 1), (4, 22, 1), (5, 2, 1), (6, 2, 1), (7, 2, 1), (8, 3, 1)]), true⟩ = true := by decide +kernel
theorem ty81 : tyB Tryz.prog 81 ⟨9, 72, [.i .u64 0, .i .i64 0, .i .i64 0, .i .i64 0, .i .u64 0, .i .i64 0, .i .i64 0, .i .i64 0, .i .i64 0], (.st [(0, 22, 1), (1, 3, 1), (2, 3, 1), (3, 3, 1), (4, 22, 1), (5, 2, 1), (6, 2, 1), (7, 2, 1), (8, 3, 1)]), true⟩ = true := by decide +kernel
theorem ty82 : tyB Tryz.prog 82 ⟨1, 24, [ns], (.sl 22), false⟩ = true := by decide +kernel
theorem ty83 : tyB Tryz.prog 83 ⟨14, 128, [.i .i64 0, .i .i64 0, .i .u64 0, .i .i64 0, .i .i64 0, .i .i64 0, .i .u64 0, .i .i64 0, .i .i64 0, .i .i64 0, .i .i64 0, ns, .i .u64 0, .i .i64 0], (.st [(0, 39, 1), (1, 2, 1), (2, 81, 9), (11, 82, 1), (12, 22, 1), (13, 3, 1)]), true⟩ = true := by decide +kernel
theorem ty84 : tyB Tryz.prog 84 ⟨14, 128, [.i .i64 0, .i .i64 0, .i .u64 0, .i .i64 0, .i .i64 0, .i .i64 0, .i .u64 0, .i .i64 0, .i .i64 0, .i .i64 0, .i .i64 0, ns, .i .u64 0, .i .i64 0], (.st [(0, 39, 1), (1, 2, 1), (2, 81, 9), (11, 82, 1), (12, 22, 1), (13, 3, 1)]), true⟩ = true := by decide +kernel
theorem ty85 : tyB Tryz.prog 85 ⟨17, 152, [.i .u64 0, .i .u64 0, .i .i64 0, .i .i64 0, .i .i64 0, .i .u64 0, .i .i64 0, .i .i64 0, .i .i64 0, .i .u64 0, .i .i64 0, .i .i64 0, .i .i64 0, .i .i64 0, ns, .i .u64 0, .i .i64 0], (.st [(0, 22, 1), (1, 22, 1), (2, 39, 1), (3, 84, 14)]), true⟩ = true := by decide +kernel
theorem ty86 : tyB Tryz.prog 86 ⟨17, 152, [.i .u64 0, .i .u64 0, .i .i64 0, .i .i64 0, .i .i64 0, .i .u64 0, .i .i64 0, .i .i64 0, .i .i64 0, .i .u64 0, .i .i64 0, .i .i64 0, .i .i64 0, .i .i64 0, ns, .i .u64 0, .i .i64 0], (.st [(0, 22, 1), (1, 22, 1), (2, 39, 1), (3, 84, 14)]), true⟩ = true := by decide +kernel
theorem ty87 : tyB Tryz.prog 87 ⟨1, 8, [nm], (.mp 9 464), false⟩ = true := by decide +kernel
theorem ty88 : tyB Tryz.prog 88 ⟨1, 8, [np], .ptr, false⟩ = true := by decide +kernel
theorem ty89 : tyB Tryz.prog 89 ⟨1, 8, [nf], .fn, false⟩ = true := by decide +kernel
theorem ty90 : tyB Tryz.prog 90 ⟨5, 40, [nm, .i .i64 0, .b false, .i .i64 0, np], (.st [(0, 87, 1), (1, 3, 1), (2, 4, 1), (3, 3, 1), (4, 88, 1)]), true⟩ = true := by decide +kernel
theorem ty91 : tyB Tryz.prog 91 ⟨5, 40, [nm, .i .i64 0, .b false, .i .i64 0, np], (.st [(0, 87, 1), (1, 3, 1), (2, 4, 1), (3, 3, 1), (4, 88, 1)]), true⟩ = true := by decide +kernel
theorem ty92 : tyB Tryz.prog 92 ⟨1, 8, [nf], .fn, false⟩ = true := by decide +kernel
theorem ty94 : tyB Tryz.prog 94 ⟨1, 8, [nf], .fn, false⟩ = true := by decide +kernel
theorem ty95 : tyB Tryz.prog 95 ⟨1, 24, [ns], (.sl 202), false⟩ = true := by decide +kernel
theorem ty96 : tyB Tryz.prog 96 ⟨9, 152, [.b false, .i .u64 0, .i .u64 0, ns, ns, .i .u64 0, ns, ns, ns], (.st [(0, 4, 1), (1, 27, 4), (5, 22, 1), (6, 23, 1), (7, 95, 1), (8, 95, 1)]), true⟩ = true := by decide +kernel
theorem ty97 : tyB Tryz.prog 97 ⟨9, 152, [.b false, .i .u64 0, .i .u64 0, ns, ns, .i .u64 0, ns, ns, ns], (.st [(0, 4, 1), (1, 27, 4), (5, 22, 1), (6, 23, 1), (7, 95, 1), (8, 95, 1)]), true⟩ = true := by decide +kernel
theorem ty98 : tyB Tryz.prog 98 ⟨1, 8, [nf], .fn, false⟩ = true := by decide +kernel
theorem ty100 : tyB Tryz.prog 100 ⟨1, 8, [nf], .fn, false⟩ = true := by decide +kernel
theorem ty101 : tyB Tryz.prog 101 ⟨1, 8, [nf], .fn, false⟩ = true := by decide +kernel
theorem ty102 : tyB Tryz.prog 102 ⟨1, 8, [nf], .fn, false⟩ = true := by decide +kernel
theorem ty103 : tyB Tryz.prog 103 ⟨1, 8, [nf], .fn, false⟩ = true := by decide +kernel
theorem ty104 : tyB Tryz.prog 104 ⟨1, 24, [ns], (.sl 25), false⟩ = true := by decide +kernel
theorem ty105 : tyB Tryz.prog 105 ⟨1, 8, [nf], .fn, false⟩ = true := by decide +kernel
theorem ty107 : tyB Tryz.prog 107 ⟨1, 8, [nf], .fn, false⟩ = true := by decide +kernel
theorem ty108 : tyB Tryz.prog 108 ⟨1, 8, [nf], .fn, false⟩ = true := by decide +kernel
theorem ty110 : tyB Tryz.prog 110 ⟨1, 8, [nf], .fn, false⟩ = true := by decide +kernel
theorem ty111 : tyB Tryz.prog 111 ⟨1, 8, [nf], .fn, false⟩ = true := by decide +kernel
theorem ty113 : tyB Tryz.prog 113 ⟨1, 8, [nf], .fn, false⟩ = true := by decide +kernel
theorem ty114 : tyB Tryz.prog 114 ⟨1, 8, [nf], .fn, false⟩ = true := by decide +kernel
theorem ty115 : tyB Tryz.prog 115 ⟨1, 24, [ns], (.sl 339), false⟩ = true := by decide +kernel
theorem ty116 : tyB Tryz.prog 116 ⟨3, 56, [.i .i64 0, ns, ns], (.st [(0, 2, 1), (1, 115, 1), (2, 115, 1)]), true⟩ = true := by decide +kernel
theorem ty117 : tyB Tryz.prog 117 ⟨3, 56, [.i .i64 0, ns, ns], (.st [(0, 2, 1), (1, 115, 1), (2, 115, 1)]), true⟩ = true := by decide +kernel
theorem ty118 : tyB Tryz.prog 118 ⟨1, 24, [ns], (.sl 343), false⟩ = true := by decide +kernel
theorem ty119 : tyB Tryz.prog 119 ⟨4, 48, [.i .i64 0, ns, .i .i64 0, .i .i64 0], (.st [(0, 3, 1), (1, 118, 1), (2, 3, 1), (3, 2, 1)]), true⟩ = true := by decide +kernel
theorem ty120 : tyB Tryz.prog 120 ⟨4, 48, [.i .i64 0, ns, .i .i64 0, .i .i64 0], (.st [(0, 3, 1), (1, 118, 1), (2, 3, 1), (3, 2, 1)]), true⟩ = true := by decide +kernel
theorem ty121 : tyB Tryz.prog 121 ⟨13, 152, [.i .i64 0, .i .u64 0, .i .u64 0, .i .u64 0, .i .i64 0, .i .i64 0, .i .i64 0, ns, ns, .i .i64 0, ns, .i .i64 0, .i .i64 0], (.st [(0, 3, 1), (1, 22, 1), (2, 22, 1), (3, 22, 1), (4, 3, 1), (5, 2, 1), (6, 117, 3), (9, 120, 4)]), true⟩ = true := by decide +kernel
theorem ty122 : tyB Tryz.prog 122 ⟨13, 152, [.i .i64 0, .i .u64 0, .i .u64 0, .i .u64 0, .i .i64 0, .i .i64 0, .i .i64 0, ns, ns, .i .i64 0, ns, .i .i64 0, .i .i64 0], (.st [(0, 3, 1), (1, 22, 1), (2, 22, 1), (3, 22, 1), (4, 3, 1), (5, 2, 1), (6, 117, 3), (9, 120, 4)]), true⟩ = true := by decide +kernel
theorem ty124 : tyB Tryz.prog 124 ⟨1, 8, [nf], .fn, false⟩ = true := by decide +kernel
theorem ty125 : tyB Tryz.prog 125 ⟨4, 32, [.i .u64 0, .i .u64 0, .i .u64 0, .i .u64 0], (.st [(0, 22, 1), (1, 22, 1), (2, 22, 1), (3, 22, 1)]), true⟩ = true := by decide +kernel
theorem ty126 : tyB Tryz.prog 126 ⟨4, 32, [.i .u64 0, .i .u64 0, .i .u64 0, .i .u64 0], (.st [(0, 22, 1), (1, 22, 1), (2, 22, 1), (3, 22, 1)]), true⟩ = true := by decide +kernel
theorem ty127 : tyB Tryz.prog 127 ⟨1, 8, [nf], .fn, false⟩ = true := by decide +kernel
theorem ty129 : tyB Tryz.prog 129 ⟨1, 8, [nf], .fn, false⟩ = true := by decide +kernel
theorem ty130 : tyB Tryz.prog 130 ⟨1, 8, [nf], .fn, false⟩ = true := by decide +kernel
theorem ty131 : tyB Tryz.prog 131 ⟨2, 16, [.i .u64 0, .i .u64 0], (.st [(0, 22, 1), (1, 22, 1)]), true⟩ = true := by decide +kernel
theorem ty132 : tyB Tryz.prog 132 ⟨2, 16, [.i .u64 0, .i .u64 0], (.st [(0, 22, 1), (1, 22, 1)]), true⟩ = true := by decide +kernel
theorem ty133 : tyB Tryz.prog 133 ⟨15, 120, [.i .u64 0, .i .i64 0, .i .u64 0, .i .u64 0, .i .i64 0, .b false, .i .u64 0, .i .i64 0, .i .i64 0, .i .i64 0, .i .u64 0, .i .i64 0, .i .i64 0, .i .i64 0, .i .i64 0], (.st [(0, 22, 1), (1, 39, 1), (2, 22, 1), (3, 22, 1), (4, 2, 1), (5, 4, 1), (6, 81, 9)]), true⟩ = true := by decide +kernel
theorem ty134 : tyB Tryz.prog 134 ⟨15, 120, [.i .u64 0, .i .i64 0, .i .u64 0, .i .u64 0, .i .i64 0, .b false, .i .u64 0, .i .i64 0, .i .i64 0, .i .i64 0, .i .u64 0, .i .i64 0, .i .i64 0, .i .i64 0, .i .i64 0], (.st [(0, 22, 1), (1, 39, 1), (2, 22, 1), (3, 22, 1), (4, 2, 1), (5, 4, 1), (6, 81, 9)]), true⟩ = true := by decide +kernel
theorem ty135 : tyB Tryz.prog 135 ⟨3, 40, [.i .u64 0, .i .i64 0, ns], (.st [(0, 22, 1), (1, 3, 1), (2, 25, 1)]), true⟩ = true := by decide +kernel
theorem ty136 : tyB Tryz.prog 136 ⟨3, 40, [.i .u64 0, .i .i64 0, ns], (.st [(0, 22, 1), (1, 3, 1), (2, 25, 1)]), true⟩ = true := by decide +kernel
theorem ty137 : tyB Tryz.prog 137 ⟨1, 8, [nf], .fn, false⟩ = true := by decide +kernel
theorem ty138 : tyB Tryz.prog 138 ⟨0, 0, [], (.st []), true⟩ = true := by decide +kernel
theorem ty139 : tyB Tryz.prog 139 ⟨0, 0, [], (.st []), true⟩ = true := by decide +kernel
end Go.Proofs.YtkbpafbbogjifaaGreat
