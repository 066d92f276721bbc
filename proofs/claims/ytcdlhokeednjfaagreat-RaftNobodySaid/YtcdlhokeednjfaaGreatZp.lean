/- A runner's tables. -/
import Derived.Test.YtcdlhokeednjfaaGreatZn
import Derived.Test.YtcdlhokeednjfaaGreatProg
namespace Go.Proofs.YtcdlhokeednjfaaGreat
open Go Go.Proofs.Rn
def np : V := .o (.pointer none)
def ns : V := .o (.slice none 0 0)
def nm : V := .o (.map none)
def nf : V := .o .nilFunc
def ni : V := .o .nilIface
set_option maxRecDepth 100000 in
noncomputable def tyT : Tr TJ := (.n (.n (.n (.n (.n (.n (.n (.n (.n .e (some ⟨1, 8, [nf], .fn, false⟩) .e) none .e) (some ⟨1, 8, [nf], .fn, false⟩) (.n (.n .e (some ⟨1, 8, [np], .ptr, false⟩) .e) (some ⟨1, 8, [nf], .fn, false⟩) .e)) (some ⟨21, 256, [.i .i64 0, .i .i64 0, .i .i64 0, .i .i64 0, .i .i64 0, .i .u64 0, .i .u64 0, .i .u64 0, .i .u64 0, .i .u64 0, .b false, .b false, ns, .i .u64 0, .i .u64 0, ns, ns, .i .u64 0, ns, ns, ns], (.st [(0, 3, 1), (1, 3, 1), (2, 29, 15), (17, 22, 1), (18, 24, 1), (19, 25, 1), (20, 30, 1)]), true⟩) (.n (.n (.n .e (some ⟨1, 8, [nf], .fn, false⟩) .e) (some ⟨4, 48, [.b false, .i .u64 0, .i .u64 0, ns], (.st [(0, 4, 1), (1, 22, 1), (2, 22, 1), (3, 51, 1)]), true⟩) .e) (some ⟨1, 8, [nf], .fn, false⟩) (.n (.n .e (some ⟨1, 1, [.i .u8 0], (.int .u8), false⟩) .e) (some ⟨2, 32, [ns, .i .i64 0], (.st [(0, 25, 1), (1, 3, 1)]), true⟩) .e))) (some ⟨1, 8, [np], .ptr, false⟩) (.n (.n (.n (.n .e (some ⟨1, 8, [nf], .fn, false⟩) .e) (some ⟨1, 8, [nm], (.mp 3 146), false⟩) .e) (some ⟨1, 8, [nf], .fn, false⟩) (.n (.n .e (some ⟨1, 8, [np], .ptr, false⟩) .e) (some ⟨1, 8, [nf], .fn, false⟩) .e)) (some ⟨1, 8, [np], .ptr, false⟩) (.n (.n (.n .e (some ⟨1, 8, [nf], .fn, false⟩) .e) (some ⟨3, 24, [np, .i .u64 0, .i .i64 0], (.st [(0, 37, 1), (1, 137, 2)]), true⟩) .e) (some ⟨0, 0, [], (.st []), true⟩) (.n .e (some ⟨1, 8, [nm], (.mp 3 3), false⟩) .e)))) (some ⟨4, 24, [.i .i64 0, .i .i64 0, .b false, .i .u8 0], (.st [(0, 2, 1), (1, 3, 1), (2, 4, 1), (3, 6, 1)]), true⟩) (.n (.n (.n (.n (.n .e (some ⟨1, 8, [nf], .fn, false⟩) .e) (some ⟨1, 8, [nf], .fn, false⟩) .e) (some ⟨1, 8, [nm], (.mp 9 224), false⟩) (.n .e (some ⟨1, 8, [nf], .fn, false⟩) .e)) (some ⟨1, 8, [.i .i64 0], (.int .i64), false⟩) (.n (.n (.n .e (some ⟨1, 8, [nf], .fn, false⟩) .e) (some ⟨1, 8, [nf], .fn, false⟩) .e) none (.n (.n .e (some ⟨2, 8, [.i .u16 0, .i .u32 0], (.st [(0, 358, 1), (1, 301, 1)]), true⟩) .e) (some ⟨1, 8, [nf], .fn, false⟩) .e))) (some ⟨1, 24, [ns], (.sl 110), false⟩) (.n (.n (.n (.n .e (some ⟨1, 8, [nf], .fn, false⟩) .e) (some ⟨1, 8, [nf], .fn, false⟩) .e) (some ⟨1, 8, [nf], .fn, false⟩) (.n (.n .e (some ⟨1, 8, [nf], .fn, false⟩) .e) (some ⟨4, 32, [nf, nf, nf, nf], (.arr 4 83), true⟩) .e)) none (.n (.n (.n .e (some ⟨1, 8, [nf], .fn, false⟩) .e) (some ⟨5, 72, [np, .i .u64 0, ns, ns, .i .i64 0], (.st [(0, 37, 1), (1, 22, 1), (2, 23, 1), (3, 182, 1), (4, 3, 1)]), true⟩) .e) (some ⟨1, 8, [nf], .fn, false⟩) (.n .e (some ⟨1, 8, [nf], .fn, false⟩) .e))))) (some ⟨1, 8, [.i .i64 0], (.int .i64), false⟩) (.n (.n (.n (.n (.n (.n .e (some ⟨1, 8, [nf], .fn, false⟩) .e) none .e) (some ⟨1, 8, [nf], .fn, false⟩) (.n (.n .e (some ⟨1, 8, [nf], .fn, false⟩) .e) (some ⟨1, 8, [nf], .fn, false⟩) .e)) (some ⟨1, 8, [nf], .fn, false⟩) (.n (.n (.n .e (some ⟨1, 8, [nf], .fn, false⟩) .e) (some ⟨1, 8, [nf], .fn, false⟩) .e) (some ⟨1, 8, [nf], .fn, false⟩) (.n (.n .e (some ⟨1, 4, [.i .i32 0], (.int .i32), false⟩) .e) none .e))) (some ⟨1, 8, [np], (.st [(0, 17, 1)]), false⟩) (.n (.n (.n (.n .e (some ⟨1, 8, [nf], .fn, false⟩) .e) (some ⟨1, 8, [nf], .fn, false⟩) .e) (some ⟨1, 8, [nf], .fn, false⟩) (.n (.n .e (some ⟨1, 8, [nf], .fn, false⟩) .e) (some ⟨1, 8, [nf], .fn, false⟩) .e)) (some ⟨1, 24, [ns], (.sl 161), false⟩) (.n (.n (.n .e (some ⟨1, 8, [nf], .fn, false⟩) .e) (some ⟨1, 8, [nf], .fn, false⟩) .e) (some ⟨1, 8, [.i .u64 0], (.st [(0, 112, 0), (0, 113, 0), (0, 22, 1)]), false⟩) (.n .e (some ⟨1, 8, [nf], .fn, false⟩) .e)))) (some ⟨1, 16, [.s []], .str, false⟩) (.n (.n (.n (.n (.n .e (some ⟨1, 8, [nf], .fn, false⟩) .e) (some ⟨1, 8, [nf], .fn, false⟩) .e) (some ⟨5, 40, [nm, .i .i64 0, .b false, .i .i64 0, np], (.st [(0, 71, 1), (1, 3, 1), (2, 4, 1), (3, 3, 1), (4, 72, 1)]), true⟩) (.n (.n .e (some ⟨1, 8, [nf], .fn, false⟩) .e) (some ⟨1, 8, [nf], .fn, false⟩) .e)) (some ⟨4, 48, [.i .i64 0, ns, .i .i64 0, .i .i64 0], (.st [(0, 3, 1), (1, 24, 1), (2, 3, 1), (3, 3, 1)]), true⟩) (.n (.n (.n .e (some ⟨1, 8, [nf], .fn, false⟩) .e) (some ⟨1, 8, [nf], .fn, false⟩) .e) (some ⟨1, 8, [nf], .fn, false⟩) .e)) (some ⟨4, 64, [.i .u64 0, .i .u64 0, ns, ns], (.st [(0, 22, 1), (1, 22, 1), (2, 24, 1), (3, 25, 1)]), true⟩) (.n (.n (.n .e (some ⟨1, 8, [nf], .fn, false⟩) .e) (some ⟨4, 32, [.i .u64 0, .i .u64 0, .i .u64 0, .b false], (.st [(0, 22, 1), (1, 22, 1), (2, 22, 1), (3, 4, 1)]), true⟩) (.n (.n .e (some ⟨0, 0, [], (.arr 0 16), true⟩) .e) (some ⟨1, 8, [nf], .fn, false⟩) .e)) (some ⟨1, 8, [nf], .fn, false⟩) (.n (.n (.n .e (some ⟨1, 8, [nf], .fn, false⟩) .e) (some ⟨1, 8, [nf], .fn, false⟩) .e) (some ⟨3, 24, [np, np, np], (.st [(0, 120, 1), (1, 121, 1), (2, 122, 1)]), true⟩) (.n .e (some ⟨2, 32, [ns, .b false], (.st [(0, 25, 1), (1, 4, 1)]), true⟩) .e)))))) (some ⟨1, 8, [nf], .fn, false⟩) (.n (.n (.n (.n (.n (.n (.n .e (some ⟨1, 8, [nf], .fn, false⟩) .e) none .e) (some ⟨9, 88, [.i .i64 0, .i .i64 0, .i .i64 0, .i .u64 0, .i .u64 0, .i .u64 0, .i .u64 0, .i .u64 0, ns], (.st [(0, 3, 1), (1, 3, 1), (2, 3, 1), (3, 22, 1), (4, 22, 1), (5, 22, 1), (6, 22, 1), (7, 22, 1), (8, 24, 1)]), true⟩) (.n (.n .e (some ⟨1, 8, [nf], .fn, false⟩) .e) (some ⟨1, 24, [ns], (.sl 22), false⟩) .e)) (some ⟨1, 8, [nf], .fn, false⟩) (.n (.n (.n .e (some ⟨1, 8, [nf], .fn, false⟩) .e) (some ⟨3, 24, [.i .u64 0, .i .u64 0, .i .u64 0], (.st [(0, 22, 1), (1, 22, 1), (2, 22, 1)]), true⟩) .e) (some ⟨1, 8, [nf], .fn, false⟩) (.n (.n .e (some ⟨1, 8, [np], .ptr, false⟩) .e) none .e))) (some ⟨1, 8, [np], .ptr, false⟩) (.n (.n (.n (.n .e (some ⟨1, 8, [nf], .fn, false⟩) .e) (some ⟨1, 8, [nm], (.st [(0, 143, 1)]), true⟩) .e) none (.n (.n .e (some ⟨1, 8, [nf], .fn, false⟩) .e) (some ⟨1, 8, [nf], .fn, false⟩) .e)) (some ⟨1, 8, [np], .ptr, false⟩) (.n (.n (.n .e (some ⟨1, 8, [nf], .fn, false⟩) .e) (some ⟨5, 72, [np, .i .u64 0, .i .u64 0, ns, ns], (.st [(0, 37, 1), (1, 27, 4)]), true⟩) .e) (some ⟨0, 0, [], (.st []), true⟩) (.n .e (some ⟨2, 32, [ns, nm], (.st [(0, 24, 1), (1, 239, 1)]), true⟩) .e)))) (some ⟨1, 16, [.s []], .str, false⟩) (.n (.n (.n (.n (.n .e (some ⟨1, 8, [nf], .fn, false⟩) .e) (some ⟨2, 16, [.i .u64 0, .i .i64 0], (.st [(0, 22, 1), (1, 3, 1)]), true⟩) .e) (some ⟨1, 8, [nf], .fn, false⟩) (.n (.n .e (some ⟨1, 8, [nf], .fn, false⟩) .e) (some ⟨1, 8, [nf], .fn, false⟩) .e)) (some ⟨1, 8, [nf], .fn, false⟩) (.n (.n (.n .e (some ⟨1, 8, [nf], .fn, false⟩) .e) (some ⟨1, 8, [nf], .fn, false⟩) .e) none (.n (.n .e (some ⟨1, 8, [np], .o, false⟩) .e) (some ⟨1, 8, [nf], .fn, false⟩) .e))) (some ⟨1, 24, [ns], (.sl 5), false⟩) (.n (.n (.n (.n .e (some ⟨16, 16, [.i .u8 0, .i .u8 0, .i .u8 0, .i .u8 0, .i .u8 0, .i .u8 0, .i .u8 0, .i .u8 0, .i .u8 0, .i .u8 0, .i .u8 0, .i .u8 0, .i .u8 0, .i .u8 0, .i .u8 0, .i .u8 0], (.arr 16 5), true⟩) .e) (some ⟨1, 24, [ns], (.st [(0, 25, 1)]), true⟩) .e) none (.n (.n .e (some ⟨4, 40, [np, np, np, .s []], (.st [(0, 17, 1), (1, 17, 1), (2, 17, 1), (3, 9, 1)]), false⟩) .e) (some ⟨3, 24, [.i .u64 0, .i .i64 0, .i .i64 0], (.st [(0, 22, 1), (1, 3, 1), (2, 3, 1)]), true⟩) .e)) (some ⟨1, 8, [nf], .fn, false⟩) (.n (.n (.n .e (some ⟨1, 8, [nf], .fn, false⟩) .e) (some ⟨1, 8, [nf], .fn, false⟩) .e) (some ⟨1, 8, [np], .ptr, false⟩) (.n .e (some ⟨1, 8, [nf], .fn, false⟩) .e))))) (some ⟨1, 1, [.i .u8 0], (.int .u8), false⟩) (.n (.n (.n (.n .e (some ⟨1, 8, [nf], .fn, false⟩) (.n (.n .e (some ⟨1, 8, [nf], .fn, false⟩) .e) (some ⟨1, 8, [nf], .fn, false⟩) .e)) (some ⟨1, 8, [np], .ptr, false⟩) (.n (.n .e (some ⟨1, 8, [nf], .fn, false⟩) .e) (some ⟨1, 8, [nf], .fn, false⟩) (.n (.n .e (some ⟨11, 48, [.i .u64 0, .i .u64 0, .i .u32 0, .i .u8 0, .i .u8 0, .i .u8 0, .i .u8 0, nf, np, .i .i32 0, .i .i32 0], (.st [(0, 12, 1), (1, 12, 1), (2, 301, 1), (3, 350, 1), (4, 5, 1), (5, 5, 1), (6, 351, 1), (7, 352, 1), (8, 353, 1), (9, 354, 1), (10, 355, 1)]), false⟩) .e) (some ⟨1, 8, [nf], .fn, false⟩) .e))) (some ⟨1, 4, [.i .i32 0], (.int .i32), false⟩) (.n (.n (.n (.n .e (some ⟨1, 8, [nf], .fn, false⟩) .e) (some ⟨1, 8, [nf], .fn, false⟩) .e) (some ⟨1, 8, [nf], .fn, false⟩) (.n (.n .e (some ⟨1, 8, [nf], .fn, false⟩) .e) (some ⟨1, 8, [nf], .fn, false⟩) .e)) (some ⟨20, 224, [np, .i .i64 0, ns, .i .i64 0, .i .i64 0, .i .i64 0, .i .i64 0, .i .i64 0, .i .i64 0, .i .i64 0, .i .u64 0, .i .u64 0, .b false, ns, .i .u64 0, np, np, np, ns, ns], (.st [(0, 47, 1), (1, 43, 4), (5, 3, 1), (6, 3, 1), (7, 3, 1), (8, 3, 1), (9, 3, 1), (10, 22, 1), (11, 22, 1), (12, 4, 1), (13, 24, 1), (14, 22, 1), (15, 48, 1), (16, 49, 1), (17, 50, 1), (18, 51, 1), (19, 45, 1)]), true⟩) (.n (.n (.n .e (some ⟨1, 8, [nf], .fn, false⟩) .e) (some ⟨1, 8, [nf], .fn, false⟩) .e) (some ⟨17, 136, [.i .u64 0, .i .u64 0, .i .u64 0, .i .u64 0, .i .u64 0, .i .u64 0, .i .u64 0, .i .u64 0, .i .u64 0, .i .u64 0, .i .u64 0, .i .u64 0, .i .u64 0, .i .u64 0, .i .u64 0, .i .u64 0, .i .i64 0], (.st [(0, 116, 16), (16, 3, 1)]), true⟩) (.n .e (some ⟨1, 8, [nf], .fn, false⟩) .e)))) (some ⟨2, 24, [.s [], .i .u64 0], (.st [(0, 9, 1), (1, 12, 1)]), false⟩) (.n (.n (.n (.n (.n .e (some ⟨1, 8, [nf], .fn, false⟩) .e) (some ⟨1, 8, [nf], .fn, false⟩) .e) none (.n (.n .e (some ⟨1, 8, [nf], .fn, false⟩) .e) (some ⟨1, 8, [nf], .fn, false⟩) .e)) (some ⟨1, 24, [ns], (.sl 29), false⟩) (.n (.n (.n .e (some ⟨1, 4, [.i .u32 0], (.int .u32), false⟩) .e) none .e) (some ⟨3, 40, [.i .u64 0, .i .i64 0, ns], (.st [(0, 22, 1), (1, 3, 1), (2, 25, 1)]), true⟩) (.n .e (some ⟨1, 8, [np], .ptr, false⟩) .e))) (some ⟨15, 160, [.i .i64 0, .i .i64 0, .i .i64 0, .i .u64 0, .i .u64 0, .i .u64 0, .i .u64 0, .i .u64 0, .b false, .b false, ns, .i .u64 0, .i .u64 0, ns, ns], (.st [(0, 3, 1), (1, 3, 1), (2, 3, 1), (3, 22, 1), (4, 22, 1), (5, 22, 1), (6, 22, 1), (7, 22, 1), (8, 4, 1), (9, 4, 1), (10, 23, 1), (11, 27, 4)]), true⟩) (.n (.n (.n .e (some ⟨1, 8, [nf], .fn, false⟩) .e) none (.n (.n .e (some ⟨0, 0, [], (.st [(0, 347, 0)]), false⟩) .e) (some ⟨1, 8, [nf], .fn, false⟩) .e)) (some ⟨9, 152, [.b false, .i .u64 0, .i .u64 0, ns, ns, .i .u64 0, ns, ns, ns], (.st [(0, 4, 1), (1, 27, 4), (5, 22, 1), (6, 23, 1), (7, 51, 1), (8, 51, 1)]), true⟩) (.n (.n (.n .e (some ⟨1, 8, [nf], .fn, false⟩) .e) (some ⟨1, 8, [nf], .fn, false⟩) .e) (some ⟨4, 32, [np, np, np, .b false], (.st [(0, 124, 3), (3, 4, 1)]), true⟩) (.n .e (some ⟨1, 8, [nf], .fn, false⟩) .e))))))) none (.n (.n (.n (.n (.n (.n (.n (.n .e (some ⟨1, 8, [nf], .fn, false⟩) .e) (some ⟨1, 8, [nf], .fn, false⟩) .e) (some ⟨9, 88, [.i .i64 0, .i .i64 0, .i .i64 0, .i .u64 0, .i .u64 0, .i .u64 0, .i .u64 0, .i .u64 0, ns], (.st [(0, 3, 1), (1, 3, 1), (2, 3, 1), (3, 22, 1), (4, 22, 1), (5, 22, 1), (6, 22, 1), (7, 22, 1), (8, 24, 1)]), true⟩) (.n (.n .e (some ⟨1, 8, [nf], .fn, false⟩) .e) (some ⟨1, 8, [np], .ptr, false⟩) .e)) (some ⟨21, 256, [.i .i64 0, .i .i64 0, .i .i64 0, .i .i64 0, .i .i64 0, .i .u64 0, .i .u64 0, .i .u64 0, .i .u64 0, .i .u64 0, .b false, .b false, ns, .i .u64 0, .i .u64 0, ns, ns, .i .u64 0, ns, ns, ns], (.st [(0, 3, 1), (1, 3, 1), (2, 29, 15), (17, 22, 1), (18, 24, 1), (19, 25, 1), (20, 30, 1)]), true⟩) (.n (.n (.n .e (some ⟨1, 8, [nf], .fn, false⟩) .e) (some ⟨3, 24, [.i .u64 0, .i .u64 0, .i .u64 0], (.st [(0, 22, 1), (1, 22, 1), (2, 22, 1)]), true⟩) .e) (some ⟨1, 8, [nf], .fn, false⟩) (.n (.n .e (some ⟨1, 8, [nf], .fn, false⟩) .e) (some ⟨2, 32, [ns, .i .i64 0], (.st [(0, 25, 1), (1, 3, 1)]), true⟩) .e))) (some ⟨1, 8, [np], .ptr, false⟩) (.n (.n (.n (.n .e (some ⟨1, 8, [nf], .fn, false⟩) .e) (some ⟨1, 8, [nm], (.st [(0, 143, 1)]), true⟩) .e) (some ⟨1, 8, [nf], .fn, false⟩) (.n .e (some ⟨1, 8, [np], .ptr, false⟩) .e)) (some ⟨1, 8, [np], .ptr, false⟩) (.n (.n (.n .e (some ⟨1, 8, [nf], .fn, false⟩) .e) (some ⟨3, 24, [np, .i .u64 0, .i .i64 0], (.st [(0, 37, 1), (1, 137, 2)]), true⟩) .e) (some ⟨0, 0, [], (.st []), true⟩) (.n .e (some ⟨2, 32, [ns, nm], (.st [(0, 24, 1), (1, 239, 1)]), true⟩) .e)))) (some ⟨4, 24, [.i .i64 0, .i .i64 0, .b false, .i .u8 0], (.st [(0, 2, 1), (1, 3, 1), (2, 4, 1), (3, 6, 1)]), true⟩) (.n (.n (.n (.n (.n .e (some ⟨1, 8, [nf], .fn, false⟩) .e) (some ⟨2, 16, [.i .u64 0, .i .i64 0], (.st [(0, 22, 1), (1, 3, 1)]), true⟩) .e) (some ⟨1, 8, [np], .ptr, false⟩) (.n (.n .e (some ⟨1, 8, [nf], .fn, false⟩) .e) (some ⟨1, 8, [nf], .fn, false⟩) .e)) none (.n (.n (.n .e (some ⟨1, 8, [nf], .fn, false⟩) .e) none .e) (some ⟨1, 8, [nf], .fn, false⟩) (.n (.n .e (some ⟨2, 8, [.i .u16 0, .i .u32 0], (.st [(0, 358, 1), (1, 301, 1)]), true⟩) .e) (some ⟨1, 8, [nf], .fn, false⟩) .e))) (some ⟨1, 24, [ns], (.sl 3), false⟩) (.n (.n (.n (.n .e (some ⟨1, 8, [nf], .fn, false⟩) .e) (some ⟨1, 8, [nf], .fn, false⟩) .e) (some ⟨1, 8, [nf], .fn, false⟩) (.n (.n .e (some ⟨1, 8, [nf], .fn, false⟩) .e) (some ⟨3, 24, [.i .u64 0, .i .i64 0, .i .i64 0], (.st [(0, 22, 1), (1, 3, 1), (2, 3, 1)]), true⟩) .e)) (some ⟨1, 8, [nf], .fn, false⟩) (.n (.n (.n .e (some ⟨1, 8, [nf], .fn, false⟩) .e) (some ⟨5, 72, [np, .i .u64 0, ns, ns, .i .i64 0], (.st [(0, 37, 1), (1, 22, 1), (2, 23, 1), (3, 182, 1), (4, 3, 1)]), true⟩) .e) (some ⟨1, 8, [np], .ptr, false⟩) (.n .e (some ⟨1, 8, [nf], .fn, false⟩) .e))))) (some ⟨1, 1, [.b false], .bool, false⟩) (.n (.n (.n (.n (.n .e (some ⟨1, 8, [nf], .fn, false⟩) .e) (some ⟨1, 8, [nf], .fn, false⟩) (.n (.n .e (some ⟨1, 24, [ns], (.sl 25), false⟩) .e) (some ⟨1, 8, [nf], .fn, false⟩) .e)) (some ⟨1, 8, [np], .ptr, false⟩) (.n (.n (.n .e (some ⟨1, 8, [.i .i64 0], (.int .i64), false⟩) .e) (some ⟨1, 8, [nf], .fn, false⟩) .e) (some ⟨1, 8, [nf], .fn, false⟩) (.n (.n .e (some ⟨11, 48, [.i .u64 0, .i .u64 0, .i .u32 0, .i .u8 0, .i .u8 0, .i .u8 0, .i .u8 0, nf, np, .i .i32 0, .i .i32 0], (.st [(0, 12, 1), (1, 12, 1), (2, 301, 1), (3, 350, 1), (4, 5, 1), (5, 5, 1), (6, 351, 1), (7, 352, 1), (8, 353, 1), (9, 354, 1), (10, 355, 1)]), false⟩) .e) (some ⟨1, 8, [nf], .fn, false⟩) .e))) (some ⟨1, 16, [ni], .o, false⟩) (.n (.n (.n (.n .e (some ⟨1, 8, [nf], .fn, false⟩) .e) (some ⟨1, 8, [nf], .fn, false⟩) .e) (some ⟨1, 8, [nf], .fn, false⟩) (.n (.n .e (some ⟨1, 8, [np], .ptr, false⟩) .e) (some ⟨1, 8, [nf], .fn, false⟩) .e)) (some ⟨20, 224, [np, .i .i64 0, ns, .i .i64 0, .i .i64 0, .i .i64 0, .i .i64 0, .i .i64 0, .i .i64 0, .i .i64 0, .i .u64 0, .i .u64 0, .b false, ns, .i .u64 0, np, np, np, ns, ns], (.st [(0, 47, 1), (1, 43, 4), (5, 3, 1), (6, 3, 1), (7, 3, 1), (8, 3, 1), (9, 3, 1), (10, 22, 1), (11, 22, 1), (12, 4, 1), (13, 24, 1), (14, 22, 1), (15, 48, 1), (16, 49, 1), (17, 50, 1), (18, 51, 1), (19, 45, 1)]), true⟩) (.n (.n (.n .e (some ⟨1, 8, [nf], .fn, false⟩) .e) (some ⟨1, 8, [nf], .fn, false⟩) .e) (some ⟨16, 128, [.i .u64 0, .i .u64 0, .i .u64 0, .i .u64 0, .i .u64 0, .i .u64 0, .i .u64 0, .i .u64 0, .i .u64 0, .i .u64 0, .i .u64 0, .i .u64 0, .i .u64 0, .i .u64 0, .i .u64 0, .i .u64 0], (.arr 16 115), true⟩) (.n .e (some ⟨1, 8, [.i .u64 0], (.int .u64), false⟩) .e)))) (some ⟨1, 8, [.i .u64 0], (.int .u64), false⟩) (.n (.n (.n (.n (.n .e (some ⟨1, 8, [nf], .fn, false⟩) .e) (some ⟨1, 8, [nf], .fn, false⟩) .e) (some ⟨1, 8, [nf], .fn, false⟩) (.n (.n .e (some ⟨1, 8, [nf], .fn, false⟩) .e) (some ⟨7, 7, [.b false, .b false, .b false, .b false, .b false, .b false, .b false], (.st [(0, 4, 1), (1, 4, 1), (2, 4, 1), (3, 4, 1), (4, 4, 1), (5, 4, 1), (6, 4, 1)]), true⟩) .e)) (some ⟨1, 8, [nf], .fn, false⟩) (.n (.n (.n .e (some ⟨1, 8, [nf], .fn, false⟩) .e) (some ⟨1, 8, [nf], .fn, false⟩) .e) (some ⟨1, 8, [nf], .fn, false⟩) (.n .e (some ⟨1, 8, [nf], .fn, false⟩) .e))) (some ⟨15, 160, [.i .i64 0, .i .i64 0, .i .i64 0, .i .u64 0, .i .u64 0, .i .u64 0, .i .u64 0, .i .u64 0, .b false, .b false, ns, .i .u64 0, .i .u64 0, ns, ns], (.st [(0, 3, 1), (1, 3, 1), (2, 3, 1), (3, 22, 1), (4, 22, 1), (5, 22, 1), (6, 22, 1), (7, 22, 1), (8, 4, 1), (9, 4, 1), (10, 23, 1), (11, 27, 4)]), true⟩) (.n (.n (.n (.n .e (some ⟨1, 8, [nf], .fn, false⟩) .e) (some ⟨1, 8, [nf], .fn, false⟩) .e) (some ⟨4, 32, [.i .u64 0, .i .u64 0, .i .u64 0, .b false], (.st [(0, 22, 1), (1, 22, 1), (2, 22, 1), (3, 4, 1)]), true⟩) (.n (.n .e (some ⟨0, 0, [], (.st [(0, 347, 0)]), false⟩) .e) none .e)) (some ⟨1, 8, [nf], .fn, false⟩) (.n (.n (.n .e (some ⟨1, 8, [.i .u64 0], (.int .u64), false⟩) .e) (some ⟨1, 8, [nf], .fn, false⟩) .e) (some ⟨3, 24, [np, np, np], (.st [(0, 120, 1), (1, 121, 1), (2, 122, 1)]), true⟩) (.n .e (some ⟨2, 32, [ns, .b false], (.st [(0, 25, 1), (1, 4, 1)]), true⟩) .e)))))) (some ⟨1, 8, [.i .i64 0], (.int .i64), false⟩) (.n (.n (.n (.n (.n (.n (.n .e (some ⟨1, 8, [nf], .fn, false⟩) .e) (some ⟨1, 8, [nf], .fn, false⟩) .e) (some ⟨1, 8, [nf], .fn, false⟩) (.n (.n .e (some ⟨1, 8, [nf], .fn, false⟩) .e) (some ⟨1, 8, [nf], .fn, false⟩) .e)) (some ⟨1, 24, [ns], (.sl 32), false⟩) (.n (.n (.n .e (some ⟨1, 8, [nf], .fn, false⟩) .e) (some ⟨1, 8, [nf], .fn, false⟩) .e) none (.n (.n .e (some ⟨1, 4, [.i .i32 0], (.int .i32), false⟩) .e) (some ⟨1, 8, [nf], .fn, false⟩) .e))) (some ⟨1, 8, [np], (.st [(0, 17, 1)]), false⟩) (.n (.n (.n (.n .e (some ⟨1, 8, [nf], .fn, false⟩) .e) (some ⟨1, 8, [np], .ptr, false⟩) .e) (some ⟨1, 8, [nf], .fn, false⟩) (.n (.n .e (some ⟨1, 8, [nf], .fn, false⟩) .e) (some ⟨1, 8, [nf], .fn, false⟩) .e)) (some ⟨1, 8, [np], .ptr, false⟩) (.n (.n (.n .e (some ⟨1, 8, [nf], .fn, false⟩) .e) (some ⟨5, 72, [np, .i .u64 0, .i .u64 0, ns, ns], (.st [(0, 37, 1), (1, 27, 4)]), true⟩) .e) (some ⟨1, 8, [.i .u64 0], (.st [(0, 112, 0), (0, 113, 0), (0, 22, 1)]), false⟩) (.n .e (some ⟨1, 8, [nf], .fn, false⟩) .e)))) (some ⟨1, 16, [.s []], .str, false⟩) (.n (.n (.n (.n (.n .e (some ⟨1, 8, [nf], .fn, false⟩) .e) (some ⟨1, 8, [nf], .fn, false⟩) .e) (some ⟨5, 40, [nm, .i .i64 0, .b false, .i .i64 0, np], (.st [(0, 71, 1), (1, 3, 1), (2, 4, 1), (3, 3, 1), (4, 72, 1)]), true⟩) (.n (.n .e (some ⟨1, 8, [nf], .fn, false⟩) .e) (some ⟨1, 8, [nf], .fn, false⟩) .e)) (some ⟨4, 48, [.i .i64 0, ns, .i .i64 0, .i .i64 0], (.st [(0, 3, 1), (1, 24, 1), (2, 3, 1), (3, 3, 1)]), true⟩) (.n (.n .e (some ⟨1, 8, [nf], .fn, false⟩) .e) (some ⟨1, 8, [nf], .fn, false⟩) (.n .e (some ⟨1, 8, [nf], .fn, false⟩) .e))) (some ⟨4, 64, [.i .u64 0, .i .u64 0, ns, ns], (.st [(0, 22, 1), (1, 22, 1), (2, 24, 1), (3, 25, 1)]), true⟩) (.n (.n (.n (.n .e (some ⟨1, 8, [nf], .fn, false⟩) .e) (some ⟨1, 24, [ns], (.st [(0, 25, 1)]), true⟩) .e) (some ⟨1, 8, [nf], .fn, false⟩) (.n (.n .e (some ⟨4, 40, [np, np, np, .s []], (.st [(0, 17, 1), (1, 17, 1), (2, 17, 1), (3, 9, 1)]), false⟩) .e) (some ⟨1, 8, [nf], .fn, false⟩) .e)) none (.n (.n (.n .e (some ⟨1, 8, [nf], .fn, false⟩) .e) (some ⟨1, 8, [nf], .fn, false⟩) .e) (some ⟨1, 8, [np], .ptr, false⟩) (.n .e (some ⟨1, 8, [nf], .fn, false⟩) .e))))) (some ⟨1, 1, [.i .u8 0], (.int .u8), false⟩) (.n (.n (.n (.n (.n (.n .e (some ⟨1, 8, [nf], .fn, false⟩) .e) (some ⟨1, 8, [nf], .fn, false⟩) .e) (some ⟨1, 8, [nf], .fn, false⟩) (.n (.n .e (some ⟨1, 8, [np], .ptr, false⟩) .e) (some ⟨1, 8, [nf], .fn, false⟩) .e)) (some ⟨1, 8, [nf], .fn, false⟩) (.n (.n (.n .e (some ⟨1, 8, [nf], .fn, false⟩) .e) (some ⟨1, 8, [nf], .fn, false⟩) .e) (some ⟨1, 8, [nf], .fn, false⟩) (.n (.n .e (some ⟨1, 2, [.i .u16 0], (.int .u16), false⟩) .e) (some ⟨1, 24, [ns], (.sl 9), false⟩) .e))) (some ⟨1, 8, [.i .u64 0], (.int .u64), false⟩) (.n (.n (.n (.n .e (some ⟨1, 8, [nf], .fn, false⟩) .e) (some ⟨1, 8, [nf], .fn, false⟩) .e) (some ⟨1, 8, [nf], .fn, false⟩) (.n (.n .e (some ⟨1, 8, [nf], .fn, false⟩) .e) (some ⟨1, 8, [nf], .fn, false⟩) .e)) (some ⟨1, 24, [ns], (.sl 36), false⟩) (.n (.n .e (some ⟨1, 24, [ns], (.sl 217), false⟩) .e) (some ⟨17, 136, [.i .u64 0, .i .u64 0, .i .u64 0, .i .u64 0, .i .u64 0, .i .u64 0, .i .u64 0, .i .u64 0, .i .u64 0, .i .u64 0, .i .u64 0, .i .u64 0, .i .u64 0, .i .u64 0, .i .u64 0, .i .u64 0, .i .i64 0], (.st [(0, 116, 16), (16, 3, 1)]), true⟩) (.n .e (some ⟨1, 8, [nf], .fn, false⟩) .e)))) (some ⟨2, 24, [.s [], .i .u64 0], (.st [(0, 9, 1), (1, 12, 1)]), false⟩) (.n (.n (.n (.n .e (some ⟨1, 8, [nf], .fn, false⟩) .e) (some ⟨1, 8, [nf], .fn, false⟩) (.n (.n .e (some ⟨1, 8, [nf], .fn, false⟩) .e) (some ⟨1, 8, [nf], .fn, false⟩) .e)) (some ⟨1, 8, [nf], .fn, false⟩) (.n (.n (.n .e (some ⟨1, 8, [nf], .fn, false⟩) .e) (some ⟨1, 8, [nf], .fn, false⟩) .e) (some ⟨3, 40, [.i .u64 0, .i .i64 0, ns], (.st [(0, 22, 1), (1, 3, 1), (2, 25, 1)]), true⟩) (.n .e (some ⟨1, 8, [nf], .fn, false⟩) .e))) (some ⟨1, 24, [ns], (.sl 360), false⟩) (.n (.n (.n (.n .e (some ⟨1, 8, [nf], .fn, false⟩) .e) (some ⟨4, 48, [.b false, .i .u64 0, .i .u64 0, ns], (.st [(0, 4, 1), (1, 22, 1), (2, 22, 1), (3, 51, 1)]), true⟩) .e) (some ⟨1, 8, [nf], .fn, false⟩) (.n (.n .e (some ⟨1, 1, [.i .u8 0], (.int .u8), false⟩) .e) (some ⟨1, 8, [nf], .fn, false⟩) .e)) (some ⟨9, 152, [.b false, .i .u64 0, .i .u64 0, ns, ns, .i .u64 0, ns, ns, ns], (.st [(0, 4, 1), (1, 27, 4), (5, 22, 1), (6, 23, 1), (7, 51, 1), (8, 51, 1)]), true⟩) (.n (.n (.n .e (some ⟨1, 8, [nf], .fn, false⟩) .e) (some ⟨1, 8, [nf], .fn, false⟩) .e) (some ⟨4, 32, [np, np, np, .b false], (.st [(0, 124, 3), (3, 4, 1)]), true⟩) (.n .e (some ⟨1, 8, [nf], .fn, false⟩) .e))))))))
noncomputable def fi2 : FI := ⟨Tryz.f2, []⟩
theorem fi2_ok : fnB fi2 = true := by decide +kernel
noncomputable def fi3 : FI := ⟨Tryz.f3, [(25, ⟨[0, 1, 3, 0, 0, 16, 59, 123, 255, 0, 512, 2047, 0, 4096, 16383, 0, 32768, 131071, 0, 262144, 1048575, 2097151, 4194303, 8388607, 8388607, 33554431, 67108863, 134217727, 268435455, 268435455, 1073741823, 2147483647, 4294967295, 8589934591, 8589934591, 34359738367, 68719476735, 137438953471, 274877906943, 274877906943, 1099511627775, 2199023255551, 4398046511103, 8796093022207, 8796093022207, 26388279066623, 70368744177663, 8796093022207, 281474976710655, 562949953421311], 272678883688646, (.h [0, 3, 4, 5, 9, 10, 12, 13, 15, 16, 18, 19] (.o 1 (.h [2] (.o 6 (.h [7, 8, 11, 14, 17, 20, 21, 22, 23, 24, 25, 26, 27, 28, 29, 30, 31, 32, 33, 34, 35, 36, 37, 38, 39, 40, 41, 42, 43, 44, 45, 47] (.o 46 (.h [48, 49] .nil)))))))⟩)]⟩
theorem fi3_ok : fnB fi3 = true := by decide +kernel
noncomputable def fi4 : FI := ⟨Tryz.f4, []⟩
theorem fi4_ok : fnB fi4 = true := by decide +kernel
noncomputable def fi5 : FI := ⟨Tryz.f5, []⟩
theorem fi5_ok : fnB fi5 = true := by decide +kernel
noncomputable def fi6 : FI := ⟨Tryz.f6, []⟩
theorem fi6_ok : fnB fi6 = true := by decide +kernel
noncomputable def fi7 : FI := ⟨Tryz.f7, [(7, ⟨[0, 0, 0, 4, 0, 28, 63, 127, 255], 40, (.h [0, 1, 2, 4] (.o 3 (.o 5 (.h [6] (.o 7 (.h [8] .nil))))))⟩)]⟩
theorem fi7_ok : fnB fi7 = true := by decide +kernel
noncomputable def fi8 : FI := ⟨Tryz.f8, []⟩
theorem fi8_ok : fnB fi8 = true := by decide +kernel
noncomputable def fi9 : FI := ⟨Tryz.f9, [(5, ⟨[0, 1, 3, 7, 0, 16, 48, 112, 240, 511, 1023], 0, (.h [0, 1, 2, 3, 4, 5, 6, 7, 8, 9, 10] .nil)⟩), (6, ⟨[0, 1, 3, 7, 0, 16, 48, 112, 240, 0, 512, 1536, 3584, 7680, 15872, 32752, 65535], 0, (.h [0, 1, 2, 3, 4, 5, 6, 7, 8, 9, 10, 11, 12, 13, 14, 15, 16] .nil)⟩), (11, ⟨[0, 1, 3, 7, 0, 16, 48, 112, 0, 256, 768, 1792, 3840, 8191, 16383], 0, (.h [0, 1, 2, 3, 4, 5, 6, 7, 8, 9, 10, 11, 12] (.o 13 (.h [14] .nil)))⟩), (14, ⟨[0, 1, 3, 7, 0, 16, 48, 112, 240, 511], 0, (.h [0, 1, 2, 3, 4, 5, 6, 7, 8, 9] .nil)⟩)]⟩
theorem fi9_ok : fnB fi9 = true := by decide +kernel
noncomputable def fi10 : FI := ⟨Tryz.f10, []⟩
theorem fi10_ok : fnB fi10 = true := by decide +kernel
noncomputable def fi11 : FI := ⟨Tryz.f11, [(6, ⟨[0, 1, 3, 7, 15, 31, 63, 127, 255, 511, 63, 1087, 3135, 7231, 16383, 32767, 65535, 131071, 262143, 524287, 1048575], 0, (.h [0, 1, 2, 3, 4, 5, 6, 7, 8, 9, 10, 11, 12, 13, 14, 15, 16, 17] (.o 18 (.h [19, 20] .nil)))⟩), (11, ⟨[0, 1, 3, 7, 0, 16, 0, 64, 192, 448, 1008, 2047], 1056, (.h [0, 1, 2, 3, 4, 6, 7, 8, 9] (.o 5 (.o 10 (.o 11 .nil))))⟩)]⟩
theorem fi11_ok : fnB fi11 = true := by decide +kernel
noncomputable def fi12 : FI := ⟨Tryz.f12, [(10, ⟨[0, 1, 0, 4, 12, 28, 60, 127], 64, (.h [0, 1, 2, 3, 4, 5] (.o 6 (.h [7] .nil)))⟩)]⟩
theorem fi12_ok : fnB fi12 = true := by decide +kernel
noncomputable def fi13 : FI := ⟨Tryz.f13, [(6, ⟨[0, 1, 3, 7, 0, 0, 32, 96, 224, 511, 1023, 2047, 2047, 4095, 16383], 0, (.h [0, 1, 2, 3, 4, 5, 6, 7, 8] (.o 9 (.h [10, 11, 12, 13, 14] .nil)))⟩)]⟩
theorem fi13_ok : fnB fi13 = true := by decide +kernel
noncomputable def fi14 : FI := ⟨Tryz.f14, [(7, ⟨[0, 1, 3, 7, 0, 16, 0, 64, 192, 448, 0, 1024, 3072, 7168, 16320, 32704, 65535, 131071, 262143], 0, (.h [0, 1, 2, 3, 4, 5, 6, 7, 8, 9, 10, 11, 12, 13, 14, 15] (.o 16 (.h [17] (.o 18 .nil))))⟩), (10, ⟨[0, 1, 3, 7, 0, 16, 48, 112, 255, 511, 1023], 0, (.h [0, 1, 2, 3, 4, 5, 6, 7] (.o 8 (.h [9] (.o 10 .nil))))⟩)]⟩
theorem fi14_ok : fnB fi14 = true := by decide +kernel
noncomputable def fi15 : FI := ⟨Tryz.f15, [(5, ⟨[0, 1, 3, 7, 0, 16, 48, 112, 0, 256, 768, 1792, 0, 4096, 0, 16384, 49152, 114688, 0, 262144, 786432, 1835008, 0, 4194304, 12582912, 29360128, 62926848, 0, 134217728, 402653184, 939524096, 2143301632, 0, 4294967296, 12884901888, 30064771072, 68715294720, 137438953471, 274877906943], 70934077440, (.h [0, 1, 2, 3, 4, 5, 6, 7, 8, 9, 10, 11, 12, 14, 15, 16, 17, 18, 19, 20, 21, 22, 23, 24, 25, 27, 28, 29, 30, 32, 33, 34, 35] (.o 13 (.o 26 (.o 31 (.o 36 (.h [37] (.o 38 .nil)))))))⟩)]⟩
theorem fi15_ok : fnB fi15 = true := by decide +kernel
noncomputable def fi16 : FI := ⟨Tryz.f16, [(1, ⟨[0, 1, 3, 7, 15, 31, 63, 127, 255, 511, 1023, 511, 2559, 6655, 14847, 31231, 65535, 131071], 65024, (.h [0] (.o 1 (.h [2, 3, 4] (.o 5 (.h [6, 7, 8, 9, 10, 11, 12, 13, 14, 15, 16, 17] .nil)))))⟩)]⟩
theorem fi16_ok : fnB fi16 = true := by decide +kernel
noncomputable def fi17 : FI := ⟨Tryz.f17, [(6, ⟨[0, 1, 3, 7, 0, 16, 48, 112, 240, 511, 1023], 256, (.h [0, 1, 2, 3, 4, 5, 6, 7] (.o 8 (.h [9, 10] .nil)))⟩), (8, ⟨[0, 1, 3, 7, 0, 16, 48, 112, 255, 511, 1023, 1023, 2047, 8191], 0, (.h [0, 1, 2, 3, 4, 5, 6, 7] (.o 8 (.h [9, 10, 11, 12, 13] .nil)))⟩), (10, ⟨[0, 0, 2, 6, 14, 0, 32, 96, 224, 0, 0, 0, 4064, 8190, 16383, 32767], 0, (.h [0, 1, 2, 3, 4, 5, 6, 7, 8, 9, 10, 11, 12] (.o 13 (.o 14 (.h [15] .nil))))⟩)]⟩
theorem fi17_ok : fnB fi17 = true := by decide +kernel
noncomputable def fi18 : FI := ⟨Tryz.f18, []⟩
theorem fi18_ok : fnB fi18 = true := by decide +kernel
noncomputable def fi19 : FI := ⟨Tryz.f19, []⟩
theorem fi19_ok : fnB fi19 = true := by decide +kernel
noncomputable def fi20 : FI := ⟨Tryz.f20, []⟩
theorem fi20_ok : fnB fi20 = true := by decide +kernel
noncomputable def fi21 : FI := ⟨Tryz.f21, [(13, ⟨[0, 1, 3, 7, 15, 0, 32, 127, 255, 511, 511, 0, 3071, 8191], 0, (.h [0, 1, 2, 3, 4, 5, 6] (.w 7 11 (.h [8, 9, 10] (.o 11 (.o 12 (.h [13] .nil)))) (.o 7 (.h [8, 9, 10] (.o 12 (.h [13] .nil))))))⟩), (15, ⟨[0, 1, 3, 7, 15, 0, 32, 127, 255], 0, (.h [0, 1, 2, 3, 4, 5, 6] (.o 7 (.h [8] .nil)))⟩)]⟩
theorem fi21_ok : fnB fi21 = true := by decide +kernel
noncomputable def fi22 : FI := ⟨Tryz.f22, []⟩
theorem fi22_ok : fnB fi22 = true := by decide +kernel
noncomputable def fi23 : FI := ⟨Tryz.f23, []⟩
theorem fi23_ok : fnB fi23 = true := by decide +kernel
noncomputable def fi24 : FI := ⟨Tryz.f24, [(1, ⟨[0, 1, 3, 7, 0, 16, 48, 112, 240, 511, 1023, 2047, 2047, 4095, 16383], 256, (.h [0, 1, 2, 3, 4, 5, 6, 7] (.o 8 (.o 9 (.h [10, 11, 12, 13, 14] .nil))))⟩)]⟩
theorem fi24_ok : fnB fi24 = true := by decide +kernel
noncomputable def fi25 : FI := ⟨Tryz.f25, []⟩
theorem fi25_ok : fnB fi25 = true := by decide +kernel
noncomputable def fi26 : FI := ⟨Tryz.f26, []⟩
theorem fi26_ok : fnB fi26 = true := by decide +kernel
noncomputable def fi27 : FI := ⟨Tryz.f27, []⟩
theorem fi27_ok : fnB fi27 = true := by decide +kernel
noncomputable def fi28 : FI := ⟨Tryz.f28, []⟩
theorem fi28_ok : fnB fi28 = true := by decide +kernel
noncomputable def fi29 : FI := ⟨Tryz.f29, []⟩
theorem fi29_ok : fnB fi29 = true := by decide +kernel
noncomputable def fi30 : FI := ⟨Tryz.f30, [(1, ⟨[0, 1, 3, 7, 0, 16, 48, 112, 240, 511, 1023, 2047, 4095, 8191, 16383, 2047, 34815, 100351, 231423, 524287, 1048575, 2097151], 522240, (.h [0, 1, 2, 3, 4, 5, 6, 7, 8] (.o 9 (.h [10, 11, 12, 13, 14, 15, 16, 17, 18, 19, 20, 21] .nil)))⟩)]⟩
theorem fi30_ok : fnB fi30 = true := by decide +kernel
noncomputable def fi31 : FI := ⟨Tryz.f31, [(7, ⟨[0, 0, 0, 4, 12, 0, 32, 96, 224, 492, 0, 2028, 4092, 8191], 2584, (.h [0, 1, 2, 5, 6, 7, 8, 10] (.o 3 (.h [4] (.o 9 (.o 11 (.h [12] (.o 13 .nil)))))))⟩)]⟩
theorem fi31_ok : fnB fi31 = true := by decide +kernel
noncomputable def fi32 : FI := ⟨Tryz.f32, []⟩
theorem fi32_ok : fnB fi32 = true := by decide +kernel
noncomputable def fi33 : FI := ⟨Tryz.f33, [(1, ⟨[0, 0, 2, 6, 14, 0, 32, 96, 224, 480, 1022, 2047, 4095, 8191], 512, (.h [0, 1, 2, 3, 4, 5, 6, 7, 8] (.o 9 (.o 10 (.h [11, 12] (.o 13 .nil)))))⟩)]⟩
theorem fi33_ok : fnB fi33 = true := by decide +kernel
noncomputable def fi34 : FI := ⟨Tryz.f34, []⟩
theorem fi34_ok : fnB fi34 = true := by decide +kernel
noncomputable def fi35 : FI := ⟨Tryz.f35, []⟩
theorem fi35_ok : fnB fi35 = true := by decide +kernel
noncomputable def fi36 : FI := ⟨Tryz.f36, []⟩
theorem fi36_ok : fnB fi36 = true := by decide +kernel
noncomputable def fi37 : FI := ⟨Tryz.f37, [(1, ⟨[0, 1, 3, 7, 15, 0, 32, 96, 224, 511, 1023, 2047, 4095], 16, (.h [0, 1, 2, 3, 5, 6, 7, 8] (.o 4 (.o 9 (.h [10, 11, 12] .nil))))⟩)]⟩
theorem fi37_ok : fnB fi37 = true := by decide +kernel
noncomputable def fi38 : FI := ⟨Tryz.f38, []⟩
theorem fi38_ok : fnB fi38 = true := by decide +kernel
noncomputable def fi39 : FI := ⟨Tryz.f39, []⟩
theorem fi39_ok : fnB fi39 = true := by decide +kernel
noncomputable def fi40 : FI := ⟨Tryz.f40, []⟩
theorem fi40_ok : fnB fi40 = true := by decide +kernel
noncomputable def fi41 : FI := ⟨Tryz.f41, [(1, ⟨[0, 1, 3, 7, 0, 16, 48, 112, 255, 511, 1023, 1023, 2047, 8191], 0, (.h [0, 1, 2, 3, 4, 5, 6, 7] (.o 8 (.h [9, 10, 11, 12, 13] .nil)))⟩)]⟩
theorem fi41_ok : fnB fi41 = true := by decide +kernel
noncomputable def fi42 : FI := ⟨Tryz.f42, []⟩
theorem fi42_ok : fnB fi42 = true := by decide +kernel
noncomputable def fi43 : FI := ⟨Tryz.f43, []⟩
theorem fi43_ok : fnB fi43 = true := by decide +kernel
noncomputable def fi44 : FI := ⟨Tryz.f44, []⟩
theorem fi44_ok : fnB fi44 = true := by decide +kernel
noncomputable def fi45 : FI := ⟨Tryz.f45, []⟩
theorem fi45_ok : fnB fi45 = true := by decide +kernel
noncomputable def fi46 : FI := ⟨Tryz.f46, []⟩
theorem fi46_ok : fnB fi46 = true := by decide +kernel
noncomputable def fi47 : FI := ⟨Tryz.f47, []⟩
theorem fi47_ok : fnB fi47 = true := by decide +kernel
noncomputable def fi48 : FI := ⟨Tryz.f48, [(1, ⟨[0, 1, 3, 7, 15, 0, 0, 64, 0, 256, 960, 223, 3039, 7167, 15359, 32767, 65535], 30208, (.h [0, 1, 2, 3, 4, 5, 6, 7, 8, 11] (.o 9 (.h [10] (.o 12 (.h [13] (.o 14 (.h [15] (.o 16 .nil))))))))⟩), (2, ⟨[0, 0, 2, 6, 14, 0, 32, 126, 255, 511, 1023], 0, (.h [0, 1, 2, 3, 4, 5] (.o 6 (.o 7 (.h [8, 9] (.o 10 .nil)))))⟩)]⟩
theorem fi48_ok : fnB fi48 = true := by decide +kernel
noncomputable def fi49 : FI := ⟨Tryz.f49, [(4, ⟨[0, 0, 0, 4, 12, 28, 60, 0, 252, 511], 64, (.h [0, 1, 2, 3, 4, 5, 7] (.o 6 (.h [8] (.o 9 .nil))))⟩), (6, ⟨[0, 0, 0, 0, 0, 16, 48, 112, 0, 256, 768, 1792, 3840, 0, 8192, 24576, 57344, 0, 131072, 524032, 1048572, 2097151], 528384, (.h [0, 1, 2, 3, 4, 5, 6, 7, 8, 9, 10, 11, 13, 14, 15, 16, 17, 18] (.o 12 (.o 19 (.h [20] (.o 21 .nil)))))⟩)]⟩
theorem fi49_ok : fnB fi49 = true := by decide +kernel
noncomputable def fi50 : FI := ⟨Tryz.f50, []⟩
theorem fi50_ok : fnB fi50 = true := by decide +kernel
noncomputable def fi51 : FI := ⟨Tryz.f51, [(8, ⟨[0, 0, 2, 6, 14, 0, 0, 126, 0, 0, 0, 1024, 3840, 7936, 16382, 32767, 65535, 131071], 6144, (.h [0, 1, 2, 3, 4, 5, 6, 7, 8, 9, 10] (.o 11 (.h [12] (.o 13 (.o 14 (.h [15, 16] (.o 17 .nil)))))))⟩)]⟩
theorem fi51_ok : fnB fi51 = true := by decide +kernel
noncomputable def fi52 : FI := ⟨Tryz.f52, []⟩
theorem fi52_ok : fnB fi52 = true := by decide +kernel
noncomputable def fi53 : FI := ⟨Tryz.f53, [(0, ⟨[0, 1, 3, 7, 0, 16, 48, 112, 0, 256, 768, 1792, 0, 4096, 12288, 28672, 61440, 0, 131072, 393216, 917504, 1966080, 4194288, 8388607], 6291456, (.h [0, 1, 2, 3, 4, 5, 6, 7, 8, 9, 10, 11, 12, 13, 14, 15, 16, 17, 18, 19, 20] (.o 21 (.o 22 (.o 23 .nil))))⟩)]⟩
theorem fi53_ok : fnB fi53 = true := by decide +kernel
noncomputable def fi54 : FI := ⟨Tryz.f54, []⟩
theorem fi54_ok : fnB fi54 = true := by decide +kernel
noncomputable def fi55 : FI := ⟨Tryz.f55, []⟩
theorem fi55_ok : fnB fi55 = true := by decide +kernel
noncomputable def fi56 : FI := ⟨Tryz.f56, []⟩
theorem fi56_ok : fnB fi56 = true := by decide +kernel
noncomputable def fi57 : FI := ⟨Tryz.f57, []⟩
theorem fi57_ok : fnB fi57 = true := by decide +kernel
noncomputable def fi58 : FI := ⟨Tryz.f58, []⟩
theorem fi58_ok : fnB fi58 = true := by decide +kernel
noncomputable def fi59 : FI := ⟨Tryz.f59, [(10, ⟨[0, 0, 2, 6, 14, 0, 32, 96, 254, 511, 1023], 0, (.h [0, 1, 2, 3, 4, 5, 6, 7] (.o 8 (.o 9 (.h [10] .nil))))⟩)]⟩
theorem fi59_ok : fnB fi59 = true := by decide +kernel
noncomputable def fi60 : FI := ⟨Tryz.f60, [(4, ⟨[0, 1, 0, 4, 15, 31, 63, 127, 255, 511, 1023, 2047, 2047, 8191, 16383, 32767], 6152, (.h [0, 1, 2] (.o 3 (.h [4, 5, 6] (.o 7 (.h [8, 9, 10, 11, 12] (.o 13 (.h [14, 15] .nil)))))))⟩), (15, ⟨[0, 1, 3, 7, 15, 31, 63, 127, 255, 511, 63, 1087, 3135, 7231, 15423, 32767, 65535], 0, (.h [0, 1, 2, 3, 4, 5, 6, 7, 8, 9, 10, 11, 12, 13, 14] (.o 15 (.h [16] .nil)))⟩), (20, ⟨[0, 0, 0, 0, 8, 1, 33, 97, 251, 507, 1019, 2047, 4095, 8191], 128, (.h [0, 1, 2, 3, 4, 5, 6] (.o 7 (.h [8, 9] (.o 10 (.h [11, 12] (.o 13 .nil))))))⟩)]⟩
theorem fi60_ok : fnB fi60 = true := by decide +kernel
noncomputable def fi61 : FI := ⟨Tryz.f61, []⟩
theorem fi61_ok : fnB fi61 = true := by decide +kernel
noncomputable def fi62 : FI := ⟨Tryz.f62, []⟩
theorem fi62_ok : fnB fi62 = true := by decide +kernel
noncomputable def fi63 : FI := ⟨Tryz.f63, []⟩
theorem fi63_ok : fnB fi63 = true := by decide +kernel
noncomputable def fi64 : FI := ⟨Tryz.f64, [(4, ⟨[0, 1, 3, 7, 15, 0, 63, 127], 0, (.h [0, 1, 2, 3, 4, 5] (.o 6 (.h [7] .nil)))⟩), (8, ⟨[0, 1, 3, 7, 15, 0, 32, 127, 255, 511, 511, 0, 3071, 8191], 0, (.h [0, 1, 2, 3, 4, 5, 6] (.w 7 11 (.h [8, 9, 10] (.o 11 (.o 12 (.h [13] .nil)))) (.o 7 (.h [8, 9, 10] (.o 12 (.h [13] .nil))))))⟩)]⟩
theorem fi64_ok : fnB fi64 = true := by decide +kernel
noncomputable def fi65 : FI := ⟨Tryz.f65, []⟩
theorem fi65_ok : fnB fi65 = true := by decide +kernel
noncomputable def fi66 : FI := ⟨Tryz.f66, []⟩
theorem fi66_ok : fnB fi66 = true := by decide +kernel
noncomputable def fi67 : FI := ⟨Tryz.f67, []⟩
theorem fi67_ok : fnB fi67 = true := by decide +kernel
noncomputable def fi68 : FI := ⟨Tryz.f68, []⟩
theorem fi68_ok : fnB fi68 = true := by decide +kernel
noncomputable def fi69 : FI := ⟨Tryz.f69, []⟩
theorem fi69_ok : fnB fi69 = true := by decide +kernel
noncomputable def fi70 : FI := ⟨Tryz.f70, [(3, ⟨[0, 1, 3, 7, 0, 0, 32, 96, 224, 496, 1008, 0, 0, 4096, 12288, 28672, 63488, 131071, 262143, 524287, 1048575, 2097151, 4194303], 0, (.h [0, 1, 2, 3, 4, 5, 6, 7, 8, 9, 10, 11, 12, 13, 14, 15, 16, 17] (.o 18 (.h [19, 20] (.o 21 (.h [22] .nil)))))⟩)]⟩
theorem fi70_ok : fnB fi70 = true := by decide +kernel
noncomputable def fi71 : FI := ⟨Tryz.f71, []⟩
theorem fi71_ok : fnB fi71 = true := by decide +kernel
noncomputable def fi72 : FI := ⟨Tryz.f72, []⟩
theorem fi72_ok : fnB fi72 = true := by decide +kernel
noncomputable def fi73 : FI := ⟨Tryz.f73, []⟩
theorem fi73_ok : fnB fi73 = true := by decide +kernel
noncomputable def fi74 : FI := ⟨Tryz.f74, []⟩
theorem fi74_ok : fnB fi74 = true := by decide +kernel
noncomputable def fi75 : FI := ⟨Tryz.f75, [(2, ⟨[0, 1, 3, 7, 0, 16, 48, 112, 240, 511], 0, (.h [0, 1, 2, 3, 4, 5, 6, 7, 8] (.o 9 .nil))⟩)]⟩
theorem fi75_ok : fnB fi75 = true := by decide +kernel
noncomputable def fi76 : FI := ⟨Tryz.f76, [(0, ⟨[0, 1, 3, 7, 15, 15, 47, 111, 239, 15, 527, 1551, 15, 4111, 12303, 28687, 61455, 130575, 262127, 524287, 1048575, 2097151], 524272, (.h [0] (.o 1 (.h [2, 3, 4, 5, 6, 7, 8, 9, 12, 13, 14, 15, 16] (.o 10 (.h [11, 17] (.o 18 (.o 19 (.h [20, 21] .nil))))))))⟩)]⟩
theorem fi76_ok : fnB fi76 = true := by decide +kernel
noncomputable def fi77 : FI := ⟨Tryz.f77, []⟩
theorem fi77_ok : fnB fi77 = true := by decide +kernel
noncomputable def fi78 : FI := ⟨Tryz.f78, []⟩
theorem fi78_ok : fnB fi78 = true := by decide +kernel
noncomputable def fi79 : FI := ⟨Tryz.f79, []⟩
theorem fi79_ok : fnB fi79 = true := by decide +kernel
noncomputable def fi80 : FI := ⟨Tryz.f80, []⟩
theorem fi80_ok : fnB fi80 = true := by decide +kernel
noncomputable def fi81 : FI := ⟨Tryz.f81, [(1, ⟨[0, 0, 2, 6, 14, 0, 32, 0, 0, 480, 992, 2046, 4095, 8191], 576, (.h [0, 1, 2, 3, 4, 5, 7, 8] (.o 6 (.h [9] (.o 10 (.o 11 (.o 12 (.h [13] .nil)))))))⟩)]⟩
theorem fi81_ok : fnB fi81 = true := by decide +kernel
noncomputable def fi82 : FI := ⟨Tryz.f82, [(1, ⟨[0, 1, 3, 7, 0, 16, 48, 112, 0, 256, 768, 1792, 3840, 0, 8192, 24576, 57344, 122880, 262143, 524287], 131072, (.h [0, 1, 2, 3, 4, 5, 6, 7, 8, 9, 10, 11, 12, 13, 14, 15, 16] (.o 17 (.o 18 (.h [19] .nil))))⟩)]⟩
theorem fi82_ok : fnB fi82 = true := by decide +kernel
noncomputable def fi83 : FI := ⟨Tryz.f83, []⟩
theorem fi83_ok : fnB fi83 = true := by decide +kernel
noncomputable def fi84 : FI := ⟨Tryz.f84, [(6, ⟨[0, 0, 3, 7, 0, 0, 48, 112, 255], 0, (.h [0, 1, 2, 3, 4, 5, 6, 7, 8] .nil)⟩)]⟩
theorem fi84_ok : fnB fi84 = true := by decide +kernel
noncomputable def fi85 : FI := ⟨Tryz.f85, []⟩
theorem fi85_ok : fnB fi85 = true := by decide +kernel
noncomputable def fi86 : FI := ⟨Tryz.f86, []⟩
theorem fi86_ok : fnB fi86 = true := by decide +kernel
noncomputable def fi87 : FI := ⟨Tryz.f87, []⟩
theorem fi87_ok : fnB fi87 = true := by decide +kernel
noncomputable def fi88 : FI := ⟨Tryz.f88, []⟩
theorem fi88_ok : fnB fi88 = true := by decide +kernel
noncomputable def fi89 : FI := ⟨Tryz.f89, [(3, ⟨[0, 1, 3, 7, 0, 16, 48, 112, 240, 496, 1023, 2047], 0, (.h [0, 1, 2, 3, 4, 5, 6, 7, 8, 9, 10, 11] .nil)⟩)]⟩
theorem fi89_ok : fnB fi89 = true := by decide +kernel
noncomputable def fi90 : FI := ⟨Tryz.f90, []⟩
theorem fi90_ok : fnB fi90 = true := by decide +kernel
noncomputable def fi91 : FI := ⟨Tryz.f91, []⟩
theorem fi91_ok : fnB fi91 = true := by decide +kernel
noncomputable def fi92 : FI := ⟨Tryz.f92, []⟩
theorem fi92_ok : fnB fi92 = true := by decide +kernel
noncomputable def fi93 : FI := ⟨Tryz.f93, []⟩
theorem fi93_ok : fnB fi93 = true := by decide +kernel
noncomputable def fi94 : FI := ⟨Tryz.f94, []⟩
theorem fi94_ok : fnB fi94 = true := by decide +kernel
noncomputable def fi95 : FI := ⟨Tryz.f95, []⟩
theorem fi95_ok : fnB fi95 = true := by decide +kernel
noncomputable def fi96 : FI := ⟨Tryz.f96, []⟩
theorem fi96_ok : fnB fi96 = true := by decide +kernel
noncomputable def fi97 : FI := ⟨Tryz.f97, [(1, ⟨[0, 0, 2, 6, 14, 0, 0, 64, 192, 448, 992, 2046, 4095, 8191, 16383], 0, (.h [0, 1, 2, 3, 4, 5, 6, 7, 8, 9, 10, 11, 12, 13] (.o 14 .nil))⟩)]⟩
theorem fi97_ok : fnB fi97 = true := by decide +kernel
noncomputable def fi98 : FI := ⟨Tryz.f98, []⟩
theorem fi98_ok : fnB fi98 = true := by decide +kernel
noncomputable def fi99 : FI := ⟨Tryz.f99, []⟩
theorem fi99_ok : fnB fi99 = true := by decide +kernel
noncomputable def fi100 : FI := ⟨Tryz.f100, []⟩
theorem fi100_ok : fnB fi100 = true := by decide +kernel
noncomputable def fi101 : FI := ⟨Tryz.f101, [(1, ⟨[0, 1, 0, 4, 12, 28, 63, 127, 255, 511, 255, 2047, 4095, 8191], 0, (.h [0, 1, 2, 3, 4, 5, 6, 7, 8, 9, 10, 11, 12, 13] .nil)⟩)]⟩
theorem fi101_ok : fnB fi101 = true := by decide +kernel
noncomputable def fi102 : FI := ⟨Tryz.f102, []⟩
theorem fi102_ok : fnB fi102 = true := by decide +kernel
noncomputable def fi103 : FI := ⟨Tryz.f103, []⟩
theorem fi103_ok : fnB fi103 = true := by decide +kernel
noncomputable def fi104 : FI := ⟨Tryz.f104, []⟩
theorem fi104_ok : fnB fi104 = true := by decide +kernel
noncomputable def fi105 : FI := ⟨Tryz.f105, []⟩
theorem fi105_ok : fnB fi105 = true := by decide +kernel
noncomputable def fi106 : FI := ⟨Tryz.f106, [(1, ⟨[0, 1, 3, 7, 15, 31, 63, 127, 255, 511, 63, 1087, 3135, 7231, 15423, 32767, 65535, 131071], 0, (.h [0, 1, 2, 3, 4, 5, 6, 7, 8, 9, 10, 11, 12, 13, 14, 15, 16, 17] .nil)⟩)]⟩
theorem fi106_ok : fnB fi106 = true := by decide +kernel
noncomputable def fi107 : FI := ⟨Tryz.f107, [(4, ⟨[0, 0, 2, 6, 14, 30, 0, 126, 255, 511], 0, (.h [0, 1, 2, 3, 4, 5, 6] (.o 7 (.o 8 (.h [9] .nil))))⟩)]⟩
theorem fi107_ok : fnB fi107 = true := by decide +kernel
noncomputable def fi108 : FI := ⟨Tryz.f108, [(2, ⟨[0, 1, 0, 7, 15, 31, 63, 31, 255, 511, 1023, 2047, 1023, 5119, 13311, 29695, 62463, 131071, 262143, 524287, 1048575], 65536, (.h [0, 1, 2, 3, 4, 5, 6, 7, 8, 9, 10, 11, 12, 13, 14, 15] (.o 16 (.h [17, 18, 19, 20] .nil)))⟩)]⟩
theorem fi108_ok : fnB fi108 = true := by decide +kernel
noncomputable def fi109 : FI := ⟨Tryz.f109, [(6, ⟨[0, 1, 3, 7, 0, 16, 0, 64, 255], 0, (.h [0, 1, 2, 3, 4, 5, 6, 7] (.o 8 .nil))⟩)]⟩
theorem fi109_ok : fnB fi109 = true := by decide +kernel
noncomputable def fi110 : FI := ⟨Tryz.f110, [(5, ⟨[0, 0, 2, 6, 14, 0, 62, 127, 255], 0, (.h [0, 1, 2, 3, 4, 5] (.o 6 (.o 7 (.h [8] .nil))))⟩)]⟩
theorem fi110_ok : fnB fi110 = true := by decide +kernel
noncomputable def fi111 : FI := ⟨Tryz.f111, [(1, ⟨[0, 1, 3, 7, 0, 16, 63, 127, 255, 255, 0, 1535, 4095], 0, (.h [0, 1, 2, 3, 4, 5] (.w 6 10 (.h [7, 8, 9] (.o 10 (.o 11 (.h [12] .nil)))) (.o 6 (.h [7, 8, 9] (.o 11 (.h [12] .nil))))))⟩), (2, ⟨[0, 1, 3, 7, 15, 31, 63, 127, 255, 511, 1023, 2047, 1023, 5119, 13311, 29695, 62463, 131071, 262143, 524287, 1048575, 2097151, 1048575, 5242879, 13631487, 30408703, 63963135, 134217727, 268435455], 133234688, (.h [0, 1, 2, 3, 4, 5, 6, 7, 8, 9, 10, 11, 12, 13, 14, 15] (.o 16 (.h [17, 18, 19, 20, 21, 22, 23, 24, 25] (.o 26 (.h [27, 28] .nil)))))⟩), (3, ⟨[0, 1, 3, 7, 0, 16, 0, 64, 255], 0, (.h [0, 1, 2, 3, 4, 5, 6, 7] (.o 8 .nil))⟩), (5, ⟨[0, 1, 3, 7, 0, 16, 0, 64, 255], 0, (.h [0, 1, 2, 3, 4, 5, 6, 7] (.o 8 .nil))⟩), (6, ⟨[0, 1, 3, 7, 0, 16, 63, 127, 255, 255, 0, 1535, 4095], 0, (.h [0, 1, 2, 3, 4, 5] (.w 6 10 (.h [7, 8, 9] (.o 10 (.o 11 (.h [12] .nil)))) (.o 6 (.h [7, 8, 9] (.o 11 (.h [12] .nil))))))⟩), (7, ⟨[0, 1, 3, 7, 15, 31, 15, 79, 207, 463, 975, 2047, 4095], 2032, (.h [0] (.o 1 (.h [2, 3, 4, 5, 6, 7, 8, 9] (.o 10 (.h [11, 12] .nil)))))⟩), (9, ⟨[0, 1, 3, 7, 15, 31, 63, 127, 255, 511, 63, 1087, 4095, 8191, 16383, 32767, 65535, 32767, 163839, 425983, 950271, 1998847, 4194303, 8388607], 2097152, (.h [0, 1, 2, 3, 4, 5, 6, 7, 8, 9, 10, 11, 12, 13, 14, 15, 16, 17, 18, 19, 20] (.o 21 (.h [22, 23] .nil)))⟩), (11, ⟨[0, 1, 3, 7, 0, 16, 0, 64, 255], 0, (.h [0, 1, 2, 3, 4, 5, 6, 7] (.o 8 .nil))⟩)]⟩
theorem fi111_ok : fnB fi111 = true := by decide +kernel
noncomputable def fi112 : FI := ⟨Tryz.f112, [(1, ⟨[0, 1, 3, 7, 0, 16, 63, 0, 255], 0, (.h [0, 1, 2, 3, 4, 5, 6] (.o 7 (.o 8 .nil)))⟩), (3, ⟨[0, 1, 3, 0, 8, 24, 56, 127], 0, (.h [0, 1, 2, 3, 4, 5, 6, 7] .nil)⟩), (4, ⟨[0, 0, 2, 6, 14, 0, 32, 126, 255, 511], 0, (.h [0, 1, 2, 3, 4, 5, 6] (.o 7 (.o 8 (.h [9] .nil))))⟩), (5, ⟨[0, 0, 0, 0, 8, 24, 0, 64, 192, 57, 569, 1593, 4091, 8187, 16379, 32767, 65535, 131071], 2048, (.h [0, 1, 2, 3, 4, 5, 6, 7, 8, 9, 10] (.o 11 (.h [12, 13] (.o 14 (.h [15, 16] (.o 17 .nil))))))⟩), (8, ⟨[0, 1, 0, 4, 12, 28, 63], 0, (.h [0, 1, 2, 3, 4, 5, 6] .nil)⟩), (9, ⟨[0, 1, 3, 7, 0, 16, 63, 127, 255, 255, 511, 2047], 0, (.h [0, 1, 2, 3, 4, 5] (.o 6 (.h [7, 8, 9, 10, 11] .nil)))⟩), (14, ⟨[0, 0, 2, 6, 14, 0, 32, 0, 128, 480, 1022, 2047, 4095, 8191], 0, (.h [0, 1, 2, 3, 4, 5, 6, 7, 8, 9, 10, 11, 12] (.o 13 .nil))⟩)]⟩
theorem fi112_ok : fnB fi112 = true := by decide +kernel
noncomputable def fi113 : FI := ⟨Tryz.f113, []⟩
theorem fi113_ok : fnB fi113 = true := by decide +kernel
noncomputable def fi114 : FI := ⟨Tryz.f114, []⟩
theorem fi114_ok : fnB fi114 = true := by decide +kernel
noncomputable def fi115 : FI := ⟨Tryz.f115, []⟩
theorem fi115_ok : fnB fi115 = true := by decide +kernel
noncomputable def fi116 : FI := ⟨Tryz.f116, [(6, ⟨[0, 1, 0, 4, 12, 28, 60, 127, 255], 0, (.h [0, 1, 2, 3, 4, 5, 6, 7, 8] .nil)⟩), (16, ⟨[0, 0, 2, 7, 15, 31], 4, (.h [0, 1] (.o 2 (.h [3, 4] (.o 5 .nil))))⟩)]⟩
theorem fi116_ok : fnB fi116 = true := by decide +kernel
noncomputable def fi117 : FI := ⟨Tryz.f117, []⟩
theorem fi117_ok : fnB fi117 = true := by decide +kernel
noncomputable def fi118 : FI := ⟨Tryz.f118, [(7, ⟨[0, 1, 3, 7, 0, 16, 63, 127], 32, (.h [0, 1, 2, 3, 4] (.o 5 (.o 6 (.h [7] .nil))))⟩), (10, ⟨[0, 0, 0, 4, 12, 28, 60, 124, 0, 256, 768, 1792, 0, 4096, 16128, 32764, 65533, 131069, 262141, 524287, 1048575, 2097151], 128, (.h [0, 1, 2, 3, 4, 5, 6, 8, 9, 10, 11, 12, 13, 14] (.o 7 (.o 15 (.h [16, 17] (.o 18 (.h [19, 20] (.o 21 .nil)))))))⟩), (11, ⟨[0, 0, 0, 4, 12, 28, 0, 64, 192, 508, 0, 1024, 3072, 7168, 0, 16384, 64512, 16381, 147453, 409597, 1048575, 2097151, 4194303], 524288, (.h [0, 1, 2, 3, 4, 5, 6, 7, 8, 9, 10, 11, 12, 13, 14, 15, 16, 17, 18] (.o 19 (.h [20, 21] (.o 22 .nil))))⟩)]⟩
theorem fi118_ok : fnB fi118 = true := by decide +kernel
noncomputable def fi119 : FI := ⟨Tryz.f119, []⟩
theorem fi119_ok : fnB fi119 = true := by decide +kernel
noncomputable def fi120 : FI := ⟨Tryz.f120, []⟩
theorem fi120_ok : fnB fi120 = true := by decide +kernel
noncomputable def fi121 : FI := ⟨Tryz.f121, [(11, ⟨[0, 0, 2, 7, 15], 4, (.h [0, 1] (.o 2 (.o 3 (.h [4] .nil))))⟩)]⟩
theorem fi121_ok : fnB fi121 = true := by decide +kernel
noncomputable def fi122 : FI := ⟨Tryz.f122, []⟩
theorem fi122_ok : fnB fi122 = true := by decide +kernel
noncomputable def fi123 : FI := ⟨Tryz.f123, []⟩
theorem fi123_ok : fnB fi123 = true := by decide +kernel
noncomputable def fi124 : FI := ⟨Tryz.f124, [(8, ⟨[0, 1, 0, 4, 12, 28, 63, 127, 255], 24, (.h [0, 1, 2] (.o 3 (.h [4] (.o 5 (.o 6 (.h [7] (.o 8 .nil)))))))⟩)]⟩
theorem fi124_ok : fnB fi124 = true := by decide +kernel
noncomputable def fi125 : FI := ⟨Tryz.f125, []⟩
theorem fi125_ok : fnB fi125 = true := by decide +kernel
noncomputable def fi126 : FI := ⟨Tryz.f126, []⟩
theorem fi126_ok : fnB fi126 = true := by decide +kernel
noncomputable def fi127 : FI := ⟨Tryz.f127, []⟩
theorem fi127_ok : fnB fi127 = true := by decide +kernel
noncomputable def fi128 : FI := ⟨Tryz.f128, [(4, ⟨[0, 1, 3, 7, 0, 16, 48, 112, 255, 511, 1023, 1023, 2047, 8191], 128, (.h [0, 1, 2, 3, 4, 5, 6] (.o 7 (.o 8 (.h [9, 10, 11, 12, 13] .nil))))⟩), (6, ⟨[0, 1, 3, 7, 0, 16, 48, 112, 0, 256, 768, 1792, 4095, 8191], 128, (.h [0, 1, 2, 3, 4, 5, 6, 8, 9, 10, 11] (.o 7 (.o 12 (.h [13] .nil))))⟩), (9, ⟨[0, 1, 3, 7, 0, 16, 48, 112, 255, 511], 128, (.h [0, 1, 2, 3, 4, 5, 6] (.o 7 (.o 8 (.h [9] .nil))))⟩)]⟩
theorem fi128_ok : fnB fi128 = true := by decide +kernel
noncomputable def fi129 : FI := ⟨Tryz.f129, []⟩
theorem fi129_ok : fnB fi129 = true := by decide +kernel
noncomputable def fi130 : FI := ⟨Tryz.f130, []⟩
theorem fi130_ok : fnB fi130 = true := by decide +kernel
noncomputable def fi131 : FI := ⟨Tryz.f131, [(2, ⟨[0, 1, 3, 7, 0, 16, 48, 112, 255, 511], 128, (.h [0, 1, 2, 3, 4, 5, 6] (.o 7 (.o 8 (.h [9] .nil))))⟩), (5, ⟨[0, 0, 2, 6, 14, 30, 0, 64, 192, 448, 1022, 2047], 0, (.h [0, 1, 2, 3, 4, 5, 6, 7, 8, 9, 10] (.o 11 .nil))⟩), (6, ⟨[0, 0, 2, 6, 14, 0, 32, 96, 224, 480, 992, 2046, 4094, 8191, 16383, 32767], 0, (.h [0, 1, 2, 3, 4, 5, 6, 7, 8, 9, 10, 11] (.o 12 (.h [13, 14] (.o 15 .nil))))⟩)]⟩
theorem fi131_ok : fnB fi131 = true := by decide +kernel
noncomputable def fi132 : FI := ⟨Tryz.f132, []⟩
theorem fi132_ok : fnB fi132 = true := by decide +kernel
noncomputable def fi133 : FI := ⟨Tryz.f133, []⟩
theorem fi133_ok : fnB fi133 = true := by decide +kernel
noncomputable def fi134 : FI := ⟨Tryz.f134, []⟩
theorem fi134_ok : fnB fi134 = true := by decide +kernel
noncomputable def fi135 : FI := ⟨Tryz.f135, [(6, ⟨[0, 1, 3, 7, 15, 0, 32, 96, 255, 0, 1023, 2047], 192, (.h [0, 1, 2, 3, 4, 5, 9] (.o 6 (.h [7, 8, 10, 11] .nil)))⟩)]⟩
theorem fi135_ok : fnB fi135 = true := by decide +kernel
noncomputable def fi136 : FI := ⟨Tryz.f136, [(1, ⟨[0, 0, 0, 4, 0, 16, 48, 112, 252, 508, 1020, 2045, 4093, 8189, 16383, 32767, 65535], 8, (.h [0, 1, 2, 4, 5, 6, 7] (.o 3 (.o 8 (.o 9 (.o 10 (.h [11, 12] (.o 13 (.h [14, 15] (.o 16 .nil)))))))))⟩)]⟩
theorem fi136_ok : fnB fi136 = true := by decide +kernel
noncomputable def fi137 : FI := ⟨Tryz.f137, []⟩
theorem fi137_ok : fnB fi137 = true := by decide +kernel
noncomputable def fi138 : FI := ⟨Tryz.f138, []⟩
theorem fi138_ok : fnB fi138 = true := by decide +kernel
noncomputable def fi139 : FI := ⟨Tryz.f139, []⟩
theorem fi139_ok : fnB fi139 = true := by decide +kernel
noncomputable def fi140 : FI := ⟨Tryz.f140, []⟩
theorem fi140_ok : fnB fi140 = true := by decide +kernel
noncomputable def fi141 : FI := ⟨Tryz.f141, []⟩
theorem fi141_ok : fnB fi141 = true := by decide +kernel
noncomputable def fi142 : FI := ⟨Tryz.f142, []⟩
theorem fi142_ok : fnB fi142 = true := by decide +kernel
noncomputable def fi143 : FI := ⟨Tryz.f143, [(9, ⟨[0, 0, 2, 6, 14, 0, 0, 64, 0, 448, 960, 2016, 4064, 8160, 16382, 32767, 65535, 131071], 0, (.h [0, 1, 2, 3, 4, 5, 6, 7, 8, 9, 10, 11, 12] (.o 13 (.o 14 (.h [15, 16] (.o 17 .nil)))))⟩)]⟩
theorem fi143_ok : fnB fi143 = true := by decide +kernel
noncomputable def fi144 : FI := ⟨Tryz.f144, []⟩
theorem fi144_ok : fnB fi144 = true := by decide +kernel
noncomputable def fi145 : FI := ⟨Tryz.f145, []⟩
theorem fi145_ok : fnB fi145 = true := by decide +kernel
noncomputable def fi146 : FI := ⟨Tryz.f146, []⟩
theorem fi146_ok : fnB fi146 = true := by decide +kernel
noncomputable def fi147 : FI := ⟨Tryz.f147, []⟩
theorem fi147_ok : fnB fi147 = true := by decide +kernel
noncomputable def fi148 : FI := ⟨Tryz.f148, []⟩
theorem fi148_ok : fnB fi148 = true := by decide +kernel
noncomputable def fi149 : FI := ⟨Tryz.f149, []⟩
theorem fi149_ok : fnB fi149 = true := by decide +kernel
noncomputable def fi150 : FI := ⟨Tryz.f150, []⟩
theorem fi150_ok : fnB fi150 = true := by decide +kernel
noncomputable def fi151 : FI := ⟨Tryz.f151, []⟩
theorem fi151_ok : fnB fi151 = true := by decide +kernel
noncomputable def fi152 : FI := ⟨Tryz.f152, []⟩
theorem fi152_ok : fnB fi152 = true := by decide +kernel
noncomputable def fi153 : FI := ⟨Tryz.f153, []⟩
theorem fi153_ok : fnB fi153 = true := by decide +kernel
noncomputable def fi154 : FI := ⟨Tryz.f154, [(5, ⟨[0, 1, 3, 7, 0, 31, 63, 127], 0, (.h [0, 1, 2, 3, 4] (.o 5 (.h [6, 7] .nil)))⟩), (7, ⟨[0, 0, 2, 6, 14, 31, 63], 0, (.h [0, 1, 2, 3, 4, 5, 6] .nil)⟩)]⟩
theorem fi154_ok : fnB fi154 = true := by decide +kernel
noncomputable def fi155 : FI := ⟨Tryz.f155, []⟩
theorem fi155_ok : fnB fi155 = true := by decide +kernel
noncomputable def fi156 : FI := ⟨Tryz.f156, [(5, ⟨[0, 0, 0, 4, 12, 28, 0, 124, 0, 256, 768, 1792, 0, 4096, 16128, 4093, 36861, 102397, 262143, 524287, 1048575], 0, (.h [0, 1, 2, 3, 4, 5, 6, 7, 8, 9, 10, 11, 12, 13, 14, 15, 16] (.o 17 (.h [18, 19] (.o 20 .nil))))⟩)]⟩
theorem fi156_ok : fnB fi156 = true := by decide +kernel
noncomputable def fi157 : FI := ⟨Tryz.f157, [(7, ⟨[0, 0, 2, 6, 14, 0, 32, 96, 224, 480, 1022, 2047, 4095, 8191], 0, (.h [0, 1, 2, 3, 4, 5, 6, 7, 8, 9, 10, 11, 12] (.o 13 .nil))⟩)]⟩
theorem fi157_ok : fnB fi157 = true := by decide +kernel
noncomputable def fi158 : FI := ⟨Tryz.f158, [(1, ⟨[0, 1, 0, 4, 12, 28, 63], 0, (.h [0, 1, 2, 3, 4, 5, 6] .nil)⟩), (3, ⟨[0, 1, 3, 0, 8, 24, 56, 120, 255, 511], 128, (.h [0, 1, 2, 3, 4, 5, 6] (.o 7 (.h [8, 9] .nil)))⟩)]⟩
theorem fi158_ok : fnB fi158 = true := by decide +kernel
noncomputable def fi159 : FI := ⟨Tryz.f159, [(9, ⟨[0, 0, 2, 6, 14, 0, 32, 0, 224, 510, 1023, 2047], 0, (.h [0, 1, 2, 3, 4, 5, 6, 7, 8] (.o 9 (.o 10 (.h [11] .nil))))⟩)]⟩
theorem fi159_ok : fnB fi159 = true := by decide +kernel
noncomputable def fi160 : FI := ⟨Tryz.f160, []⟩
theorem fi160_ok : fnB fi160 = true := by decide +kernel
noncomputable def fi161 : FI := ⟨Tryz.f161, []⟩
theorem fi161_ok : fnB fi161 = true := by decide +kernel
noncomputable def fi162 : FI := ⟨Tryz.f162, []⟩
theorem fi162_ok : fnB fi162 = true := by decide +kernel
noncomputable def fi163 : FI := ⟨Tryz.f163, []⟩
theorem fi163_ok : fnB fi163 = true := by decide +kernel
noncomputable def fi164 : FI := ⟨Tryz.f164, [(1, ⟨[0, 1, 3, 7, 0, 31, 63], 0, (.h [0, 1, 2, 3, 4] (.o 5 (.h [6] .nil)))⟩)]⟩
theorem fi164_ok : fnB fi164 = true := by decide +kernel
noncomputable def fi165 : FI := ⟨Tryz.f165, [(11, ⟨[0, 1, 3, 7, 0, 0, 63], 0, (.h [0, 1, 2, 3, 4, 5] (.o 6 .nil))⟩)]⟩
theorem fi165_ok : fnB fi165 = true := by decide +kernel
noncomputable def fi166 : FI := ⟨Tryz.f166, []⟩
theorem fi166_ok : fnB fi166 = true := by decide +kernel
noncomputable def fi167 : FI := ⟨Tryz.f167, [(8, ⟨[0, 1, 3, 7, 0, 0, 63], 0, (.h [0, 1, 2, 3, 4, 5] (.o 6 .nil))⟩)]⟩
theorem fi167_ok : fnB fi167 = true := by decide +kernel
noncomputable def fi168 : FI := ⟨Tryz.f168, []⟩
theorem fi168_ok : fnB fi168 = true := by decide +kernel
noncomputable def fi169 : FI := ⟨Tryz.f169, [(10, ⟨[0, 1, 3, 7, 0, 0, 63], 0, (.h [0, 1, 2, 3, 4, 5] (.o 6 .nil))⟩)]⟩
theorem fi169_ok : fnB fi169 = true := by decide +kernel
noncomputable def fi170 : FI := ⟨Tryz.f170, []⟩
theorem fi170_ok : fnB fi170 = true := by decide +kernel
noncomputable def fi171 : FI := ⟨Tryz.f171, []⟩
theorem fi171_ok : fnB fi171 = true := by decide +kernel
noncomputable def fi172 : FI := ⟨Tryz.f172, []⟩
theorem fi172_ok : fnB fi172 = true := by decide +kernel
noncomputable def fi173 : FI := ⟨Tryz.f173, []⟩
theorem fi173_ok : fnB fi173 = true := by decide +kernel
noncomputable def fi174 : FI := ⟨Tryz.f174, [(9, ⟨[0, 0, 0, 4, 14, 30, 1, 127], 64, (.h [0, 1, 2, 3, 4, 5] (.o 6 (.o 7 .nil)))⟩), (10, ⟨[0, 0, 1, 7], 4, (.h [0, 1] (.o 2 (.o 3 .nil)))⟩)]⟩
theorem fi174_ok : fnB fi174 = true := by decide +kernel
noncomputable def fi175 : FI := ⟨Tryz.f175, [(9, ⟨[0, 1, 3, 7, 0, 0, 32, 0, 0, 480, 0, 1024, 0, 7168, 16352, 32767], 0, (.h [0, 1, 2, 3, 4, 5, 6, 7, 8, 9, 10, 11, 12, 13, 14] (.o 15 .nil))⟩)]⟩
theorem fi175_ok : fnB fi175 = true := by decide +kernel
noncomputable def fi176 : FI := ⟨Tryz.f176, []⟩
theorem fi176_ok : fnB fi176 = true := by decide +kernel
noncomputable def fi177 : FI := ⟨Tryz.f177, []⟩
theorem fi177_ok : fnB fi177 = true := by decide +kernel
noncomputable def fi178 : FI := ⟨Tryz.f178, []⟩
theorem fi178_ok : fnB fi178 = true := by decide +kernel
noncomputable def fi179 : FI := ⟨Tryz.f179, []⟩
theorem fi179_ok : fnB fi179 = true := by decide +kernel
noncomputable def fi180 : FI := ⟨Tryz.f180, []⟩
theorem fi180_ok : fnB fi180 = true := by decide +kernel
noncomputable def fi181 : FI := ⟨Tryz.f181, []⟩
theorem fi181_ok : fnB fi181 = true := by decide +kernel
noncomputable def fi182 : FI := ⟨Tryz.f182, []⟩
theorem fi182_ok : fnB fi182 = true := by decide +kernel
noncomputable def fi183 : FI := ⟨Tryz.f183, []⟩
theorem fi183_ok : fnB fi183 = true := by decide +kernel
noncomputable def fi184 : FI := ⟨Tryz.f184, [(3, ⟨[0, 1, 3, 7, 0, 16, 48, 112, 240, 496, 1023, 2047], 0, (.h [0, 1, 2, 3, 4, 5, 6, 7, 8, 9, 10, 11] .nil)⟩)]⟩
theorem fi184_ok : fnB fi184 = true := by decide +kernel
noncomputable def fi185 : FI := ⟨Tryz.f185, []⟩
theorem fi185_ok : fnB fi185 = true := by decide +kernel
noncomputable def fi186 : FI := ⟨Tryz.f186, []⟩
theorem fi186_ok : fnB fi186 = true := by decide +kernel
noncomputable def fi187 : FI := ⟨Tryz.f187, []⟩
theorem fi187_ok : fnB fi187 = true := by decide +kernel
noncomputable def fi188 : FI := ⟨Tryz.f188, []⟩
theorem fi188_ok : fnB fi188 = true := by decide +kernel
noncomputable def fi189 : FI := ⟨Tryz.f189, []⟩
theorem fi189_ok : fnB fi189 = true := by decide +kernel
noncomputable def fi190 : FI := ⟨Tryz.f190, []⟩
theorem fi190_ok : fnB fi190 = true := by decide +kernel
noncomputable def fi191 : FI := ⟨Tryz.f191, []⟩
theorem fi191_ok : fnB fi191 = true := by decide +kernel
noncomputable def fi192 : FI := ⟨Tryz.f192, [(18, ⟨[0, 1, 3, 7, 0, 16, 48, 112, 0, 511, 1023], 128, (.h [0, 1, 2, 3, 4, 5, 6, 8] (.o 7 (.o 9 (.h [10] .nil))))⟩), (22, ⟨[0, 0, 2, 6, 14, 0, 32, 96, 224, 510, 1023, 2047, 4095], 0, (.h [0, 1, 2, 3, 4, 5, 6, 7] (.o 8 (.o 9 (.h [10, 11] (.o 12 .nil)))))⟩), (24, ⟨[0, 0, 0, 4, 12, 28, 0, 64, 252, 0, 512, 1536, 3584, 0, 8192, 32256, 8189, 73725, 204797, 524287, 1048575, 2097151], 0, (.h [0, 1, 2, 3, 4, 5, 6, 7, 8, 9, 10, 11, 12, 13, 14, 15, 16, 17] (.o 18 (.h [19, 20] (.o 21 .nil))))⟩), (25, ⟨[0, 0, 2, 6, 14, 0, 32, 126, 255, 511, 1023], 64, (.h [0, 1, 2, 3, 4, 5] (.o 6 (.o 7 (.h [8, 9] (.o 10 .nil)))))⟩)]⟩
theorem fi192_ok : fnB fi192 = true := by decide +kernel
noncomputable def fi193 : FI := ⟨Tryz.f193, [(3, ⟨[0, 1, 3, 7, 0, 16, 48, 112, 240, 511, 1023], 0, (.h [0, 1, 2, 3, 4, 5, 6, 7, 8, 9, 10] .nil)⟩), (5, ⟨[0, 1, 3, 7, 0, 16, 48, 112, 240, 511, 1023], 480, (.h [0, 1, 2, 3, 4] (.o 5 (.h [6, 7] (.o 8 (.o 9 (.h [10] .nil))))))⟩)]⟩
theorem fi193_ok : fnB fi193 = true := by decide +kernel
noncomputable def fi194 : FI := ⟨Tryz.f194, []⟩
theorem fi194_ok : fnB fi194 = true := by decide +kernel
noncomputable def fi195 : FI := ⟨Tryz.f195, []⟩
theorem fi195_ok : fnB fi195 = true := by decide +kernel
noncomputable def fi196 : FI := ⟨Tryz.f196, []⟩
theorem fi196_ok : fnB fi196 = true := by decide +kernel
noncomputable def fi197 : FI := ⟨Tryz.f197, []⟩
theorem fi197_ok : fnB fi197 = true := by decide +kernel
noncomputable def fi198 : FI := ⟨Tryz.f198, []⟩
theorem fi198_ok : fnB fi198 = true := by decide +kernel
noncomputable def fi199 : FI := ⟨Tryz.f199, []⟩
theorem fi199_ok : fnB fi199 = true := by decide +kernel
noncomputable def fi200 : FI := ⟨Tryz.f200, []⟩
theorem fi200_ok : fnB fi200 = true := by decide +kernel
noncomputable def fi201 : FI := ⟨Tryz.f201, []⟩
theorem fi201_ok : fnB fi201 = true := by decide +kernel
noncomputable def fi202 : FI := ⟨Tryz.f202, []⟩
theorem fi202_ok : fnB fi202 = true := by decide +kernel
noncomputable def fi203 : FI := ⟨Tryz.f203, []⟩
theorem fi203_ok : fnB fi203 = true := by decide +kernel
noncomputable def fi204 : FI := ⟨Tryz.f204, []⟩
theorem fi204_ok : fnB fi204 = true := by decide +kernel
noncomputable def fi205 : FI := ⟨Tryz.f205, []⟩
theorem fi205_ok : fnB fi205 = true := by decide +kernel
noncomputable def fi206 : FI := ⟨Tryz.f206, []⟩
theorem fi206_ok : fnB fi206 = true := by decide +kernel
noncomputable def fi207 : FI := ⟨Tryz.f207, []⟩
theorem fi207_ok : fnB fi207 = true := by decide +kernel
noncomputable def fi208 : FI := ⟨Tryz.f208, []⟩
theorem fi208_ok : fnB fi208 = true := by decide +kernel
noncomputable def fi209 : FI := ⟨Tryz.f209, []⟩
theorem fi209_ok : fnB fi209 = true := by decide +kernel
noncomputable def fi210 : FI := ⟨Tryz.f210, []⟩
theorem fi210_ok : fnB fi210 = true := by decide +kernel
noncomputable def fi211 : FI := ⟨Tryz.f211, []⟩
theorem fi211_ok : fnB fi211 = true := by decide +kernel
noncomputable def fi212 : FI := ⟨Tryz.f212, []⟩
theorem fi212_ok : fnB fi212 = true := by decide +kernel
noncomputable def fi213 : FI := ⟨Tryz.f213, [(7, ⟨[0, 1, 3, 0, 8, 0, 7, 95, 255, 511], 0, (.h [0, 1, 2, 3, 4, 5, 6, 7] (.o 8 (.h [9] .nil)))⟩)]⟩
theorem fi213_ok : fnB fi213 = true := by decide +kernel
noncomputable def fi214 : FI := ⟨Tryz.f214, []⟩
theorem fi214_ok : fnB fi214 = true := by decide +kernel
noncomputable def fi215 : FI := ⟨Tryz.f215, []⟩
theorem fi215_ok : fnB fi215 = true := by decide +kernel
noncomputable def fi216 : FI := ⟨Tryz.f216, []⟩
theorem fi216_ok : fnB fi216 = true := by decide +kernel
noncomputable def fi217 : FI := ⟨Tryz.f217, []⟩
theorem fi217_ok : fnB fi217 = true := by decide +kernel
noncomputable def fi218 : FI := ⟨Tryz.f218, []⟩
theorem fi218_ok : fnB fi218 = true := by decide +kernel
noncomputable def fi219 : FI := ⟨Tryz.f219, []⟩
theorem fi219_ok : fnB fi219 = true := by decide +kernel
noncomputable def fi220 : FI := ⟨Tryz.f220, []⟩
theorem fi220_ok : fnB fi220 = true := by decide +kernel
noncomputable def fi221 : FI := ⟨Tryz.f221, [(11, ⟨[0, 0, 0, 1, 11, 31], 24, (.h [0, 1, 2] (.o 3 (.o 4 (.o 5 .nil))))⟩)]⟩
theorem fi221_ok : fnB fi221 = true := by decide +kernel
noncomputable def fi222 : FI := ⟨Tryz.f222, []⟩
theorem fi222_ok : fnB fi222 = true := by decide +kernel
noncomputable def fi223 : FI := ⟨Tryz.f223, []⟩
theorem fi223_ok : fnB fi223 = true := by decide +kernel
noncomputable def fi224 : FI := ⟨Tryz.f224, []⟩
theorem fi224_ok : fnB fi224 = true := by decide +kernel
noncomputable def fi225 : FI := ⟨Tryz.f225, []⟩
theorem fi225_ok : fnB fi225 = true := by decide +kernel
noncomputable def fi226 : FI := ⟨Tryz.f226, [(17, ⟨[0, 1, 3, 7, 7, 23, 63, 127, 7, 7, 775, 1799, 4095, 8191, 16383], 0, (.h [0, 1, 2, 3, 4, 5, 6, 7, 8, 9, 10, 11] (.o 12 (.h [13, 14] .nil)))⟩)]⟩
theorem fi226_ok : fnB fi226 = true := by decide +kernel
noncomputable def fi227 : FI := ⟨Tryz.f227, []⟩
theorem fi227_ok : fnB fi227 = true := by decide +kernel
noncomputable def fi228 : FI := ⟨Tryz.f228, [(17, ⟨[0, 1, 3, 7, 7, 23, 63, 127, 7, 7, 775, 1799, 4095, 8191, 16383], 0, (.h [0, 1, 2, 3, 4, 5, 6, 7, 8, 9, 10, 11] (.o 12 (.h [13, 14] .nil)))⟩)]⟩
theorem fi228_ok : fnB fi228 = true := by decide +kernel
noncomputable def fi229 : FI := ⟨Tryz.f229, [(15, ⟨[0, 1, 3, 7, 0, 16, 48, 112, 255, 511, 1023], 0, (.h [0, 1, 2, 3, 4, 5, 6, 7, 8, 9, 10] .nil)⟩), (16, ⟨[0, 1, 3, 7, 0, 16, 48, 112, 0, 0, 0, 1024, 3584, 8176, 16383, 32767, 65535, 65535, 131071, 524287], 0, (.h [0, 1, 2, 3, 4, 5, 6, 7, 8, 9, 10, 11, 12, 13] (.o 14 (.h [15, 16, 17, 18, 19] .nil)))⟩), (19, ⟨[0, 1, 3, 7, 0, 16, 48, 112, 0, 511, 1023], 128, (.h [0, 1, 2, 3, 4, 5, 6, 8] (.o 7 (.o 9 (.h [10] .nil))))⟩)]⟩
theorem fi229_ok : fnB fi229 = true := by decide +kernel
noncomputable def fi230 : FI := ⟨Tryz.f230, []⟩
theorem fi230_ok : fnB fi230 = true := by decide +kernel
noncomputable def fi231 : FI := ⟨Tryz.f231, []⟩
theorem fi231_ok : fnB fi231 = true := by decide +kernel
noncomputable def fi232 : FI := ⟨Tryz.f232, []⟩
theorem fi232_ok : fnB fi232 = true := by decide +kernel
noncomputable def fi233 : FI := ⟨Tryz.f233, []⟩
theorem fi233_ok : fnB fi233 = true := by decide +kernel
noncomputable def fi234 : FI := ⟨Tryz.f234, [(7, ⟨[0, 1, 3, 7, 15, 0, 32, 96, 224, 480, 1023, 0, 2048, 6144, 14336, 32767, 65535], 0, (.h [0, 1, 2, 3, 4, 5, 6, 7, 8, 9, 10, 11, 12, 13, 14, 15, 16] .nil)⟩)]⟩
theorem fi234_ok : fnB fi234 = true := by decide +kernel
noncomputable def fi235 : FI := ⟨Tryz.f235, [(4, ⟨[0, 0, 3, 7, 15, 31, 0, 0, 128, 448, 960, 1984, 4032, 8191, 0, 0, 32768, 114688, 245760, 507904, 1048575, 2097151], 0, (.h [0, 1, 2, 3, 4, 5, 6, 7, 8, 9, 10, 11, 12, 13, 14, 15, 16, 17, 18, 19, 20, 21] .nil)⟩)]⟩
theorem fi235_ok : fnB fi235 = true := by decide +kernel
noncomputable def fi236 : FI := ⟨Tryz.f236, []⟩
theorem fi236_ok : fnB fi236 = true := by decide +kernel
noncomputable def fi237 : FI := ⟨Tryz.f237, []⟩
theorem fi237_ok : fnB fi237 = true := by decide +kernel
noncomputable def fi238 : FI := ⟨Tryz.f238, []⟩
theorem fi238_ok : fnB fi238 = true := by decide +kernel
noncomputable def fi239 : FI := ⟨Tryz.f239, []⟩
theorem fi239_ok : fnB fi239 = true := by decide +kernel
noncomputable def fi240 : FI := ⟨Tryz.f240, []⟩
theorem fi240_ok : fnB fi240 = true := by decide +kernel
noncomputable def fi241 : FI := ⟨Tryz.f241, [(5, ⟨[0, 0, 2, 6, 14, 30, 62, 126, 254, 510, 510, 2046, 4094, 8190, 16382, 32766, 65534, 65535, 262143], 262112, (.h [0, 1, 2, 3, 4] (.o 5 (.h [6, 7, 8, 9, 10, 11, 12, 13, 14] (.o 15 (.h [16] (.o 17 (.h [18] .nil)))))))⟩)]⟩
theorem fi241_ok : fnB fi241 = true := by decide +kernel
noncomputable def fi242 : FI := ⟨Tryz.f242, []⟩
theorem fi242_ok : fnB fi242 = true := by decide +kernel
noncomputable def fi243 : FI := ⟨Tryz.f243, [(4, ⟨[0, 0, 3, 7, 15, 15, 63, 127, 15, 15, 527, 1807, 3855, 8191, 16383], 0, (.h [0, 1, 2, 3, 4, 5, 6, 7, 8, 9, 10, 11, 12] (.o 13 (.h [14] .nil)))⟩), (6, ⟨[0, 0, 0, 0, 8, 0, 0, 64, 224, 480, 0, 0, 3072, 7168, 16355, 32739, 65535, 131071], 0, (.h [0, 1, 2, 3, 4, 5, 6, 7, 8, 9, 10, 11, 12, 13, 14] (.o 15 (.h [16] (.o 17 .nil))))⟩)]⟩
theorem fi243_ok : fnB fi243 = true := by decide +kernel
noncomputable def fi244 : FI := ⟨Tryz.f244, [(10, ⟨[0, 0, 0, 0, 0, 24, 0, 0, 0, 384, 960, 1984, 0, 0, 12288, 28672, 65475, 131011, 262143, 524287], 0, (.h [0, 1, 2, 3, 4, 5, 6, 7, 8, 9, 10, 11, 12, 13, 14, 15, 16] (.o 17 (.h [18] (.o 19 .nil))))⟩)]⟩
theorem fi244_ok : fnB fi244 = true := by decide +kernel
noncomputable def fi245 : FI := ⟨Tryz.f245, [(10, ⟨[0, 0, 0, 0, 0, 24, 0, 0, 0, 384, 960, 1984, 0, 0, 12288, 28672, 65475, 131011, 262143, 524287], 0, (.h [0, 1, 2, 3, 4, 5, 6, 7, 8, 9, 10, 11, 12, 13, 14, 15, 16] (.o 17 (.h [18] (.o 19 .nil))))⟩)]⟩
theorem fi245_ok : fnB fi245 = true := by decide +kernel
noncomputable def fi246 : FI := ⟨Tryz.f246, []⟩
theorem fi246_ok : fnB fi246 = true := by decide +kernel
noncomputable def fi247 : FI := ⟨Tryz.f247, [(3, ⟨[0, 0, 0, 0, 0, 0, 48, 112, 0, 0, 768, 1792, 4083, 8179, 16383, 32767], 0, (.h [0, 1, 2, 3, 4, 5, 6, 7, 8, 9, 10, 11, 12] (.o 13 (.h [14] (.o 15 .nil))))⟩)]⟩
theorem fi247_ok : fnB fi247 = true := by decide +kernel
noncomputable def fi248 : FI := ⟨Tryz.f248, [(5, ⟨[0, 0, 3, 7, 15, 15, 63, 127, 15, 15, 527, 1807, 3855, 8191, 16383, 32767], 0, (.h [0, 1, 2, 3, 4, 5, 6, 7, 8, 9, 10, 11, 12] (.o 13 (.h [14, 15] .nil)))⟩), (11, ⟨[0, 0, 0, 0, 8, 0, 0, 64, 224, 480, 0, 0, 3072, 7168, 16355, 32739, 65535, 131071], 0, (.h [0, 1, 2, 3, 4, 5, 6, 7, 8, 9, 10, 11, 12, 13, 14] (.o 15 (.h [16] (.o 17 .nil))))⟩), (16, ⟨[0, 0, 3, 7, 0, 0, 32, 112, 240, 511, 1023], 0, (.h [0, 1, 2, 3, 4, 5, 6, 7, 8] (.o 9 (.h [10] .nil)))⟩), (17, ⟨[0, 0, 0, 0, 8, 0, 0, 64, 224, 480, 0, 0, 3072, 7168, 16355, 32739, 65535, 131071], 0, (.h [0, 1, 2, 3, 4, 5, 6, 7, 8, 9, 10, 11, 12, 13, 14] (.o 15 (.h [16] (.o 17 .nil))))⟩), (22, ⟨[0, 0, 3, 7, 0, 0, 32, 112, 240, 511, 1023], 0, (.h [0, 1, 2, 3, 4, 5, 6, 7, 8] (.o 9 (.h [10] .nil)))⟩), (23, ⟨[0, 0, 0, 0, 8, 0, 0, 64, 224, 480, 0, 0, 3072, 7168, 16355, 32739, 65535, 131071], 0, (.h [0, 1, 2, 3, 4, 5, 6, 7, 8, 9, 10, 11, 12, 13, 14] (.o 15 (.h [16] (.o 17 .nil))))⟩)]⟩
theorem fi248_ok : fnB fi248 = true := by decide +kernel
noncomputable def fi249 : FI := ⟨Tryz.f249, []⟩
theorem fi249_ok : fnB fi249 = true := by decide +kernel
noncomputable def fi250 : FI := ⟨Tryz.f250, [(1, ⟨[0, 0, 0, 0, 0, 0, 48, 112, 0, 0, 768, 1792, 4083, 8179, 16383, 32767], 0, (.h [0, 1, 2, 3, 4, 5, 6, 7, 8, 9, 10, 11, 12] (.o 13 (.h [14] (.o 15 .nil))))⟩), (3, ⟨[0, 0, 3, 7, 15, 15, 63, 127, 15, 15, 783, 1807, 4095, 8191, 16383], 0, (.h [0, 1, 2, 3, 4, 5, 6, 7, 8, 9, 10, 11] (.o 12 (.h [13, 14] .nil)))⟩), (5, ⟨[0, 0, 3, 7, 15, 15, 63, 127, 15, 15, 783, 1807, 4095, 8191], 0, (.h [0, 1, 2, 3, 4, 5, 6, 7, 8, 9, 10, 11] (.o 12 (.h [13] .nil)))⟩), (8, ⟨[0, 0, 0, 0, 0, 0, 48, 112, 0, 0, 768, 1792, 4083, 8179, 16383, 32767], 0, (.h [0, 1, 2, 3, 4, 5, 6, 7, 8, 9, 10, 11, 12] (.o 13 (.h [14] (.o 15 .nil))))⟩)]⟩
theorem fi250_ok : fnB fi250 = true := by decide +kernel
noncomputable def fi251 : FI := ⟨Tryz.f251, [(1, ⟨[0, 0, 0, 0, 0, 0, 48, 112, 0, 0, 768, 1792, 4083, 8179, 16383, 32767], 0, (.h [0, 1, 2, 3, 4, 5, 6, 7, 8, 9, 10, 11, 12] (.o 13 (.h [14] (.o 15 .nil))))⟩), (3, ⟨[0, 0, 3, 7, 15, 15, 63, 127, 15, 15, 783, 1807, 4095, 8191], 0, (.h [0, 1, 2, 3, 4, 5, 6, 7, 8, 9, 10, 11] (.o 12 (.h [13] .nil)))⟩), (5, ⟨[0, 0, 3, 7, 15, 15, 63, 127, 15, 15, 783, 1807, 4095, 8191, 16383], 0, (.h [0, 1, 2, 3, 4, 5, 6, 7, 8, 9, 10, 11] (.o 12 (.h [13, 14] .nil)))⟩), (8, ⟨[0, 0, 0, 0, 0, 0, 48, 112, 0, 0, 768, 1792, 4083, 8179, 16383, 32767], 0, (.h [0, 1, 2, 3, 4, 5, 6, 7, 8, 9, 10, 11, 12] (.o 13 (.h [14] (.o 15 .nil))))⟩), (10, ⟨[0, 0, 0, 0, 0, 0, 48, 112, 0, 0, 768, 1792, 4083, 8179, 16383, 32767], 0, (.h [0, 1, 2, 3, 4, 5, 6, 7, 8, 9, 10, 11, 12] (.o 13 (.h [14] (.o 15 .nil))))⟩), (13, ⟨[0, 0, 3, 7, 15, 15, 63, 127, 15, 15, 783, 1807, 4095, 8191], 0, (.h [0, 1, 2, 3, 4, 5, 6, 7, 8, 9, 10, 11] (.o 12 (.h [13] .nil)))⟩), (15, ⟨[0, 0, 3, 7, 15, 15, 63, 127, 15, 15, 783, 1807, 4095, 8191, 16383], 0, (.h [0, 1, 2, 3, 4, 5, 6, 7, 8, 9, 10, 11] (.o 12 (.h [13, 14] .nil)))⟩), (18, ⟨[0, 0, 0, 0, 0, 0, 48, 112, 0, 0, 768, 1792, 4083, 8179, 16383, 32767], 0, (.h [0, 1, 2, 3, 4, 5, 6, 7, 8, 9, 10, 11, 12] (.o 13 (.h [14] (.o 15 .nil))))⟩), (21, ⟨[0, 0, 0, 0, 0, 0, 48, 112, 0, 0, 768, 1792, 4083, 8179, 16383, 32767], 0, (.h [0, 1, 2, 3, 4, 5, 6, 7, 8, 9, 10, 11, 12] (.o 13 (.h [14] (.o 15 .nil))))⟩)]⟩
theorem fi251_ok : fnB fi251 = true := by decide +kernel
noncomputable def fi252 : FI := ⟨Tryz.f252, []⟩
theorem fi252_ok : fnB fi252 = true := by decide +kernel
noncomputable def fi253 : FI := ⟨Tryz.f253, []⟩
theorem fi253_ok : fnB fi253 = true := by decide +kernel
noncomputable def fi254 : FI := ⟨Tryz.f254, [(4, ⟨[0, 0, 3, 7, 15, 15, 63, 127, 15, 15, 527, 1807, 3855, 8191, 16383], 0, (.h [0, 1, 2, 3, 4, 5, 6, 7, 8, 9, 10, 11, 12] (.o 13 (.h [14] .nil)))⟩), (6, ⟨[0, 0, 0, 0, 8, 0, 0, 64, 224, 480, 0, 0, 3072, 7168, 16355, 32739, 65535, 131071], 0, (.h [0, 1, 2, 3, 4, 5, 6, 7, 8, 9, 10, 11, 12, 13, 14] (.o 15 (.h [16] (.o 17 .nil))))⟩)]⟩
theorem fi254_ok : fnB fi254 = true := by decide +kernel
noncomputable def fi255 : FI := ⟨Tryz.f255, [(10, ⟨[0, 0, 0, 0, 0, 24, 0, 0, 0, 384, 960, 1984, 0, 0, 12288, 28672, 65475, 131011, 262143, 524287], 0, (.h [0, 1, 2, 3, 4, 5, 6, 7, 8, 9, 10, 11, 12, 13, 14, 15, 16] (.o 17 (.h [18] (.o 19 .nil))))⟩)]⟩
theorem fi255_ok : fnB fi255 = true := by decide +kernel
noncomputable def fi256 : FI := ⟨Tryz.f256, [(10, ⟨[0, 0, 0, 0, 0, 24, 0, 0, 0, 384, 960, 1984, 0, 0, 12288, 28672, 65475, 131011, 262143, 524287], 0, (.h [0, 1, 2, 3, 4, 5, 6, 7, 8, 9, 10, 11, 12, 13, 14, 15, 16] (.o 17 (.h [18] (.o 19 .nil))))⟩)]⟩
theorem fi256_ok : fnB fi256 = true := by decide +kernel
noncomputable def fi257 : FI := ⟨Tryz.f257, []⟩
theorem fi257_ok : fnB fi257 = true := by decide +kernel
noncomputable def fi258 : FI := ⟨Tryz.f258, [(3, ⟨[0, 0, 0, 0, 0, 0, 48, 112, 0, 0, 768, 1792, 4083, 8179, 16383, 32767], 0, (.h [0, 1, 2, 3, 4, 5, 6, 7, 8, 9, 10, 11, 12] (.o 13 (.h [14] (.o 15 .nil))))⟩)]⟩
theorem fi258_ok : fnB fi258 = true := by decide +kernel
noncomputable def fi259 : FI := ⟨Tryz.f259, [(5, ⟨[0, 0, 3, 7, 15, 15, 63, 127, 15, 15, 527, 1807, 3855, 8191, 16383, 32767], 0, (.h [0, 1, 2, 3, 4, 5, 6, 7, 8, 9, 10, 11, 12] (.o 13 (.h [14, 15] .nil)))⟩), (11, ⟨[0, 0, 0, 0, 8, 0, 0, 64, 224, 480, 0, 0, 3072, 7168, 16355, 32739, 65535, 131071], 0, (.h [0, 1, 2, 3, 4, 5, 6, 7, 8, 9, 10, 11, 12, 13, 14] (.o 15 (.h [16] (.o 17 .nil))))⟩), (16, ⟨[0, 0, 3, 7, 0, 0, 32, 112, 240, 511, 1023], 0, (.h [0, 1, 2, 3, 4, 5, 6, 7, 8] (.o 9 (.h [10] .nil)))⟩), (17, ⟨[0, 0, 0, 0, 8, 0, 0, 64, 224, 480, 0, 0, 3072, 7168, 16355, 32739, 65535, 131071], 0, (.h [0, 1, 2, 3, 4, 5, 6, 7, 8, 9, 10, 11, 12, 13, 14] (.o 15 (.h [16] (.o 17 .nil))))⟩), (22, ⟨[0, 0, 3, 7, 0, 0, 32, 112, 240, 511, 1023], 0, (.h [0, 1, 2, 3, 4, 5, 6, 7, 8] (.o 9 (.h [10] .nil)))⟩), (23, ⟨[0, 0, 0, 0, 8, 0, 0, 64, 224, 480, 0, 0, 3072, 7168, 16355, 32739, 65535, 131071], 0, (.h [0, 1, 2, 3, 4, 5, 6, 7, 8, 9, 10, 11, 12, 13, 14] (.o 15 (.h [16] (.o 17 .nil))))⟩)]⟩
theorem fi259_ok : fnB fi259 = true := by decide +kernel
noncomputable def fi260 : FI := ⟨Tryz.f260, []⟩
theorem fi260_ok : fnB fi260 = true := by decide +kernel
noncomputable def fi261 : FI := ⟨Tryz.f261, [(1, ⟨[0, 0, 0, 0, 0, 0, 48, 112, 0, 0, 768, 1792, 4083, 8179, 16383, 32767], 0, (.h [0, 1, 2, 3, 4, 5, 6, 7, 8, 9, 10, 11, 12] (.o 13 (.h [14] (.o 15 .nil))))⟩), (3, ⟨[0, 0, 3, 7, 15, 15, 63, 127, 15, 15, 783, 1807, 4095, 8191, 16383], 0, (.h [0, 1, 2, 3, 4, 5, 6, 7, 8, 9, 10, 11] (.o 12 (.h [13, 14] .nil)))⟩), (5, ⟨[0, 0, 3, 7, 15, 15, 63, 127, 15, 15, 783, 1807, 4095, 8191], 0, (.h [0, 1, 2, 3, 4, 5, 6, 7, 8, 9, 10, 11] (.o 12 (.h [13] .nil)))⟩), (8, ⟨[0, 0, 0, 0, 0, 0, 48, 112, 0, 0, 768, 1792, 4083, 8179, 16383, 32767], 0, (.h [0, 1, 2, 3, 4, 5, 6, 7, 8, 9, 10, 11, 12] (.o 13 (.h [14] (.o 15 .nil))))⟩)]⟩
theorem fi261_ok : fnB fi261 = true := by decide +kernel
noncomputable def fi262 : FI := ⟨Tryz.f262, [(1, ⟨[0, 0, 0, 0, 0, 0, 48, 112, 0, 0, 768, 1792, 4083, 8179, 16383, 32767], 0, (.h [0, 1, 2, 3, 4, 5, 6, 7, 8, 9, 10, 11, 12] (.o 13 (.h [14] (.o 15 .nil))))⟩), (3, ⟨[0, 0, 3, 7, 15, 15, 63, 127, 15, 15, 783, 1807, 4095, 8191], 0, (.h [0, 1, 2, 3, 4, 5, 6, 7, 8, 9, 10, 11] (.o 12 (.h [13] .nil)))⟩), (5, ⟨[0, 0, 3, 7, 15, 15, 63, 127, 15, 15, 783, 1807, 4095, 8191, 16383], 0, (.h [0, 1, 2, 3, 4, 5, 6, 7, 8, 9, 10, 11] (.o 12 (.h [13, 14] .nil)))⟩), (8, ⟨[0, 0, 0, 0, 0, 0, 48, 112, 0, 0, 768, 1792, 4083, 8179, 16383, 32767], 0, (.h [0, 1, 2, 3, 4, 5, 6, 7, 8, 9, 10, 11, 12] (.o 13 (.h [14] (.o 15 .nil))))⟩), (10, ⟨[0, 0, 0, 0, 0, 0, 48, 112, 0, 0, 768, 1792, 4083, 8179, 16383, 32767], 0, (.h [0, 1, 2, 3, 4, 5, 6, 7, 8, 9, 10, 11, 12] (.o 13 (.h [14] (.o 15 .nil))))⟩), (13, ⟨[0, 0, 3, 7, 15, 15, 63, 127, 15, 15, 783, 1807, 4095, 8191], 0, (.h [0, 1, 2, 3, 4, 5, 6, 7, 8, 9, 10, 11] (.o 12 (.h [13] .nil)))⟩), (15, ⟨[0, 0, 3, 7, 15, 15, 63, 127, 15, 15, 783, 1807, 4095, 8191, 16383], 0, (.h [0, 1, 2, 3, 4, 5, 6, 7, 8, 9, 10, 11] (.o 12 (.h [13, 14] .nil)))⟩), (18, ⟨[0, 0, 0, 0, 0, 0, 48, 112, 0, 0, 768, 1792, 4083, 8179, 16383, 32767], 0, (.h [0, 1, 2, 3, 4, 5, 6, 7, 8, 9, 10, 11, 12] (.o 13 (.h [14] (.o 15 .nil))))⟩), (21, ⟨[0, 0, 0, 0, 0, 0, 48, 112, 0, 0, 768, 1792, 4083, 8179, 16383, 32767], 0, (.h [0, 1, 2, 3, 4, 5, 6, 7, 8, 9, 10, 11, 12] (.o 13 (.h [14] (.o 15 .nil))))⟩)]⟩
theorem fi262_ok : fnB fi262 = true := by decide +kernel
noncomputable def fi263 : FI := ⟨Tryz.f263, []⟩
theorem fi263_ok : fnB fi263 = true := by decide +kernel
noncomputable def fi264 : FI := ⟨Tryz.f264, []⟩
theorem fi264_ok : fnB fi264 = true := by decide +kernel
noncomputable def fi265 : FI := ⟨Tryz.f265, []⟩
theorem fi265_ok : fnB fi265 = true := by decide +kernel
noncomputable def fi266 : FI := ⟨Tryz.f266, []⟩
theorem fi266_ok : fnB fi266 = true := by decide +kernel
noncomputable def fi267 : FI := ⟨Tryz.f267, []⟩
theorem fi267_ok : fnB fi267 = true := by decide +kernel
noncomputable def fi268 : FI := ⟨Tryz.f268, []⟩
theorem fi268_ok : fnB fi268 = true := by decide +kernel
noncomputable def fi269 : FI := ⟨Tryz.f269, [(17, ⟨[0, 1, 3, 7, 7, 23, 63, 127, 7, 7, 775, 1799, 4095, 8191, 16383], 0, (.h [0, 1, 2, 3, 4, 5, 6, 7, 8, 9, 10, 11] (.o 12 (.h [13, 14] .nil)))⟩)]⟩
theorem fi269_ok : fnB fi269 = true := by decide +kernel
noncomputable def fi271 : FI := ⟨Tryz.f271, [(3, ⟨[0, 1, 0, 7, 15, 31, 31, 31, 223, 511, 1023, 31, 31, 31, 12319, 28703, 63519, 129055, 262143, 524287], 0, (.h [0, 1, 2, 3, 4, 5, 6, 7, 8, 9, 10, 11, 12, 13, 14, 15, 16, 17] (.o 18 (.h [19] .nil)))⟩), (5, ⟨[0, 0, 0, 6, 15, 31, 0, 0, 0, 384, 960, 1984, 4095, 8191], 0, (.h [0, 1, 2, 3, 4, 5, 6, 7, 8, 9, 10, 11] (.o 12 (.h [13] .nil)))⟩), (6, ⟨[0, 0, 0, 6, 0, 0, 0, 96, 0, 0, 0, 1536, 3840, 7936, 0, 0, 0, 98304, 245760, 507904, 1048335, 2096911, 4194303, 8388607], 0, (.h [0, 1, 2, 3, 4, 5, 6, 7, 8, 9, 10, 11, 12, 13, 14, 15, 16, 17, 18, 19, 20] (.o 21 (.h [22] (.o 23 .nil))))⟩)]⟩
theorem fi271_ok : fnB fi271 = true := by decide +kernel
noncomputable def fi272 : FI := ⟨Tryz.f272, []⟩
theorem fi272_ok : fnB fi272 = true := by decide +kernel
noncomputable def fi273 : FI := ⟨Tryz.f273, [(1, ⟨[0, 1, 3, 0, 8, 24, 56, 127, 255, 511], 0, (.h [0, 1, 2, 3, 4, 5, 6, 7, 8] (.o 9 .nil))⟩), (2, ⟨[0, 1, 3, 0, 8, 24, 56, 127, 255, 511], 0, (.h [0, 1, 2, 3, 4, 5, 6, 7, 8] (.o 9 .nil))⟩), (3, ⟨[0, 1, 3, 0, 8, 24, 56, 127, 255, 511], 0, (.h [0, 1, 2, 3, 4, 5, 6, 7, 8] (.o 9 .nil))⟩)]⟩
theorem fi273_ok : fnB fi273 = true := by decide +kernel
noncomputable def fi274 : FI := ⟨Tryz.f274, []⟩
theorem fi274_ok : fnB fi274 = true := by decide +kernel
noncomputable def fi275 : FI := ⟨Tryz.f275, []⟩
theorem fi275_ok : fnB fi275 = true := by decide +kernel
noncomputable def fi276 : FI := ⟨Tryz.f276, []⟩
theorem fi276_ok : fnB fi276 = true := by decide +kernel
noncomputable def fi277 : FI := ⟨Tryz.f277, [(3, ⟨[0, 1, 0, 7, 15, 31, 31, 31, 223, 511, 1023, 31, 31, 31, 12319, 28703, 63519, 129055, 262143, 524287], 0, (.h [0, 1, 2, 3, 4, 5, 6, 7, 8, 9, 10, 11, 12, 13, 14, 15, 16, 17] (.o 18 (.h [19] .nil)))⟩), (5, ⟨[0, 0, 0, 6, 15, 31, 0, 0, 0, 384, 960, 1984, 4095, 8191], 0, (.h [0, 1, 2, 3, 4, 5, 6, 7, 8, 9, 10, 11] (.o 12 (.h [13] .nil)))⟩), (6, ⟨[0, 0, 0, 6, 0, 0, 0, 96, 0, 0, 0, 1536, 3840, 7936, 0, 0, 0, 98304, 245760, 507904, 1048335, 2096911, 4194303, 8388607], 0, (.h [0, 1, 2, 3, 4, 5, 6, 7, 8, 9, 10, 11, 12, 13, 14, 15, 16, 17, 18, 19, 20] (.o 21 (.h [22] (.o 23 .nil))))⟩)]⟩
theorem fi277_ok : fnB fi277 = true := by decide +kernel
noncomputable def fi278 : FI := ⟨Tryz.f278, []⟩
theorem fi278_ok : fnB fi278 = true := by decide +kernel
noncomputable def fi279 : FI := ⟨Tryz.f279, []⟩
theorem fi279_ok : fnB fi279 = true := by decide +kernel
noncomputable def fi280 : FI := ⟨Tryz.f280, []⟩
theorem fi280_ok : fnB fi280 = true := by decide +kernel
noncomputable def fi281 : FI := ⟨Tryz.f281, []⟩
theorem fi281_ok : fnB fi281 = true := by decide +kernel
noncomputable def fi282 : FI := ⟨Tryz.f282, []⟩
theorem fi282_ok : fnB fi282 = true := by decide +kernel
noncomputable def fi283 : FI := ⟨Tryz.f283, []⟩
theorem fi283_ok : fnB fi283 = true := by decide +kernel
noncomputable def fi284 : FI := ⟨Tryz.f284, []⟩
theorem fi284_ok : fnB fi284 = true := by decide +kernel
noncomputable def fi285 : FI := ⟨Tryz.f285, [(4, ⟨[0, 0, 3, 7, 15, 15, 63, 127, 15, 15, 527, 1807, 3855, 8191, 16383], 0, (.h [0, 1, 2, 3, 4, 5, 6, 7, 8, 9, 10, 11, 12] (.o 13 (.h [14] .nil)))⟩), (6, ⟨[0, 0, 0, 0, 8, 0, 0, 64, 224, 480, 0, 0, 3072, 7168, 16355, 32739, 65535, 131071], 0, (.h [0, 1, 2, 3, 4, 5, 6, 7, 8, 9, 10, 11, 12, 13, 14] (.o 15 (.h [16] (.o 17 .nil))))⟩)]⟩
theorem fi285_ok : fnB fi285 = true := by decide +kernel
noncomputable def fi286 : FI := ⟨Tryz.f286, [(10, ⟨[0, 0, 0, 0, 0, 24, 0, 0, 0, 384, 960, 1984, 0, 0, 12288, 28672, 65475, 131011, 262143, 524287], 0, (.h [0, 1, 2, 3, 4, 5, 6, 7, 8, 9, 10, 11, 12, 13, 14, 15, 16] (.o 17 (.h [18] (.o 19 .nil))))⟩)]⟩
theorem fi286_ok : fnB fi286 = true := by decide +kernel
noncomputable def fi287 : FI := ⟨Tryz.f287, [(10, ⟨[0, 0, 0, 0, 0, 24, 0, 0, 0, 384, 960, 1984, 0, 0, 12288, 28672, 65475, 131011, 262143, 524287], 0, (.h [0, 1, 2, 3, 4, 5, 6, 7, 8, 9, 10, 11, 12, 13, 14, 15, 16] (.o 17 (.h [18] (.o 19 .nil))))⟩)]⟩
theorem fi287_ok : fnB fi287 = true := by decide +kernel
noncomputable def fi288 : FI := ⟨Tryz.f288, []⟩
theorem fi288_ok : fnB fi288 = true := by decide +kernel
noncomputable def fi289 : FI := ⟨Tryz.f289, [(3, ⟨[0, 0, 0, 0, 0, 0, 48, 112, 0, 0, 768, 1792, 4083, 8179, 16383, 32767], 0, (.h [0, 1, 2, 3, 4, 5, 6, 7, 8, 9, 10, 11, 12] (.o 13 (.h [14] (.o 15 .nil))))⟩)]⟩
theorem fi289_ok : fnB fi289 = true := by decide +kernel
noncomputable def fi290 : FI := ⟨Tryz.f290, [(5, ⟨[0, 0, 3, 7, 15, 15, 63, 127, 15, 15, 527, 1807, 3855, 8191, 16383, 32767], 0, (.h [0, 1, 2, 3, 4, 5, 6, 7, 8, 9, 10, 11, 12] (.o 13 (.h [14, 15] .nil)))⟩), (11, ⟨[0, 0, 0, 0, 8, 0, 0, 64, 224, 480, 0, 0, 3072, 7168, 16355, 32739, 65535, 131071], 0, (.h [0, 1, 2, 3, 4, 5, 6, 7, 8, 9, 10, 11, 12, 13, 14] (.o 15 (.h [16] (.o 17 .nil))))⟩), (16, ⟨[0, 0, 3, 7, 0, 0, 32, 112, 240, 511, 1023], 0, (.h [0, 1, 2, 3, 4, 5, 6, 7, 8] (.o 9 (.h [10] .nil)))⟩), (17, ⟨[0, 0, 0, 0, 8, 0, 0, 64, 224, 480, 0, 0, 3072, 7168, 16355, 32739, 65535, 131071], 0, (.h [0, 1, 2, 3, 4, 5, 6, 7, 8, 9, 10, 11, 12, 13, 14] (.o 15 (.h [16] (.o 17 .nil))))⟩), (22, ⟨[0, 0, 3, 7, 0, 0, 32, 112, 240, 511, 1023], 0, (.h [0, 1, 2, 3, 4, 5, 6, 7, 8] (.o 9 (.h [10] .nil)))⟩), (23, ⟨[0, 0, 0, 0, 8, 0, 0, 64, 224, 480, 0, 0, 3072, 7168, 16355, 32739, 65535, 131071], 0, (.h [0, 1, 2, 3, 4, 5, 6, 7, 8, 9, 10, 11, 12, 13, 14] (.o 15 (.h [16] (.o 17 .nil))))⟩)]⟩
theorem fi290_ok : fnB fi290 = true := by decide +kernel
noncomputable def fi291 : FI := ⟨Tryz.f291, []⟩
theorem fi291_ok : fnB fi291 = true := by decide +kernel
noncomputable def fi292 : FI := ⟨Tryz.f292, [(1, ⟨[0, 0, 0, 0, 0, 0, 48, 112, 0, 0, 768, 1792, 4083, 8179, 16383, 32767], 0, (.h [0, 1, 2, 3, 4, 5, 6, 7, 8, 9, 10, 11, 12] (.o 13 (.h [14] (.o 15 .nil))))⟩), (3, ⟨[0, 0, 3, 7, 15, 15, 63, 127, 15, 15, 783, 1807, 4095, 8191, 16383], 0, (.h [0, 1, 2, 3, 4, 5, 6, 7, 8, 9, 10, 11] (.o 12 (.h [13, 14] .nil)))⟩), (5, ⟨[0, 0, 3, 7, 15, 15, 63, 127, 15, 15, 783, 1807, 4095, 8191], 0, (.h [0, 1, 2, 3, 4, 5, 6, 7, 8, 9, 10, 11] (.o 12 (.h [13] .nil)))⟩), (8, ⟨[0, 0, 0, 0, 0, 0, 48, 112, 0, 0, 768, 1792, 4083, 8179, 16383, 32767], 0, (.h [0, 1, 2, 3, 4, 5, 6, 7, 8, 9, 10, 11, 12] (.o 13 (.h [14] (.o 15 .nil))))⟩)]⟩
theorem fi292_ok : fnB fi292 = true := by decide +kernel
noncomputable def fi293 : FI := ⟨Tryz.f293, [(1, ⟨[0, 0, 0, 0, 0, 0, 48, 112, 0, 0, 768, 1792, 4083, 8179, 16383, 32767], 0, (.h [0, 1, 2, 3, 4, 5, 6, 7, 8, 9, 10, 11, 12] (.o 13 (.h [14] (.o 15 .nil))))⟩), (3, ⟨[0, 0, 3, 7, 15, 15, 63, 127, 15, 15, 783, 1807, 4095, 8191], 0, (.h [0, 1, 2, 3, 4, 5, 6, 7, 8, 9, 10, 11] (.o 12 (.h [13] .nil)))⟩), (5, ⟨[0, 0, 3, 7, 15, 15, 63, 127, 15, 15, 783, 1807, 4095, 8191, 16383], 0, (.h [0, 1, 2, 3, 4, 5, 6, 7, 8, 9, 10, 11] (.o 12 (.h [13, 14] .nil)))⟩), (8, ⟨[0, 0, 0, 0, 0, 0, 48, 112, 0, 0, 768, 1792, 4083, 8179, 16383, 32767], 0, (.h [0, 1, 2, 3, 4, 5, 6, 7, 8, 9, 10, 11, 12] (.o 13 (.h [14] (.o 15 .nil))))⟩), (10, ⟨[0, 0, 0, 0, 0, 0, 48, 112, 0, 0, 768, 1792, 4083, 8179, 16383, 32767], 0, (.h [0, 1, 2, 3, 4, 5, 6, 7, 8, 9, 10, 11, 12] (.o 13 (.h [14] (.o 15 .nil))))⟩), (13, ⟨[0, 0, 3, 7, 15, 15, 63, 127, 15, 15, 783, 1807, 4095, 8191], 0, (.h [0, 1, 2, 3, 4, 5, 6, 7, 8, 9, 10, 11] (.o 12 (.h [13] .nil)))⟩), (15, ⟨[0, 0, 3, 7, 15, 15, 63, 127, 15, 15, 783, 1807, 4095, 8191, 16383], 0, (.h [0, 1, 2, 3, 4, 5, 6, 7, 8, 9, 10, 11] (.o 12 (.h [13, 14] .nil)))⟩), (18, ⟨[0, 0, 0, 0, 0, 0, 48, 112, 0, 0, 768, 1792, 4083, 8179, 16383, 32767], 0, (.h [0, 1, 2, 3, 4, 5, 6, 7, 8, 9, 10, 11, 12] (.o 13 (.h [14] (.o 15 .nil))))⟩), (21, ⟨[0, 0, 0, 0, 0, 0, 48, 112, 0, 0, 768, 1792, 4083, 8179, 16383, 32767], 0, (.h [0, 1, 2, 3, 4, 5, 6, 7, 8, 9, 10, 11, 12] (.o 13 (.h [14] (.o 15 .nil))))⟩)]⟩
theorem fi293_ok : fnB fi293 = true := by decide +kernel
noncomputable def fi294 : FI := ⟨Tryz.f294, [(1, ⟨[0, 0, 3, 7, 0, 0, 48, 112, 255], 0, (.h [0, 1, 2, 3, 4, 5, 6, 7] (.o 8 .nil))⟩)]⟩
theorem fi294_ok : fnB fi294 = true := by decide +kernel
noncomputable def fi295 : FI := ⟨Tryz.f295, [(1, ⟨[0, 0, 3, 7, 0, 0, 48, 112, 255], 0, (.h [0, 1, 2, 3, 4, 5, 6, 7] (.o 8 .nil))⟩)]⟩
theorem fi295_ok : fnB fi295 = true := by decide +kernel
noncomputable def fi296 : FI := ⟨Tryz.f296, []⟩
theorem fi296_ok : fnB fi296 = true := by decide +kernel
noncomputable def fi297 : FI := ⟨Tryz.f297, []⟩
theorem fi297_ok : fnB fi297 = true := by decide +kernel
noncomputable def fi300 : FI := ⟨Tryz.f300, [(3, ⟨[0, 1, 0, 7, 15, 31, 31, 31, 223, 511, 1023, 31, 31, 31, 12319, 28703, 63519, 129055, 262143, 524287], 0, (.h [0, 1, 2, 3, 4, 5, 6, 7, 8, 9, 10, 11, 12, 13, 14, 15, 16, 17] (.o 18 (.h [19] .nil)))⟩), (5, ⟨[0, 0, 0, 6, 15, 31, 0, 0, 0, 384, 960, 1984, 4095, 8191], 0, (.h [0, 1, 2, 3, 4, 5, 6, 7, 8, 9, 10, 11] (.o 12 (.h [13] .nil)))⟩), (6, ⟨[0, 0, 0, 6, 0, 0, 0, 96, 0, 0, 0, 1536, 3840, 7936, 0, 0, 0, 98304, 245760, 507904, 1048335, 2096911, 4194303, 8388607], 0, (.h [0, 1, 2, 3, 4, 5, 6, 7, 8, 9, 10, 11, 12, 13, 14, 15, 16, 17, 18, 19, 20] (.o 21 (.h [22] (.o 23 .nil))))⟩)]⟩
theorem fi300_ok : fnB fi300 = true := by decide +kernel
noncomputable def fi301 : FI := ⟨Tryz.f301, []⟩
theorem fi301_ok : fnB fi301 = true := by decide +kernel
noncomputable def fi302 : FI := ⟨Tryz.f302, []⟩
theorem fi302_ok : fnB fi302 = true := by decide +kernel
noncomputable def fi303 : FI := ⟨Tryz.f303, []⟩
theorem fi303_ok : fnB fi303 = true := by decide +kernel
noncomputable def fi304 : FI := ⟨Tryz.f304, [(1, ⟨[0, 0, 3, 7, 0, 0, 48, 112, 255], 0, (.h [0, 1, 2, 3, 4, 5, 6, 7] (.o 8 .nil))⟩)]⟩
theorem fi304_ok : fnB fi304 = true := by decide +kernel
set_option maxRecDepth 100000 in
noncomputable def fnT : Tr FI := (.n (.n (.n (.n (.n (.n (.n (.n (.n .e (some fi255) .e) (some fi127) .e) (some fi63) (.n .e (some fi191) .e)) (some fi31) (.n (.n (.n .e (some fi287) .e) (some fi159) .e) (some fi95) (.n .e (some fi223) .e))) (some fi15) (.n (.n (.n (.n .e (some fi271) .e) (some fi143) .e) (some fi79) (.n .e (some fi207) .e)) (some fi47) (.n (.n (.n .e (some fi303) .e) (some fi175) .e) (some fi111) (.n .e (some fi239) .e)))) (some fi7) (.n (.n (.n (.n (.n .e (some fi263) .e) (some fi135) .e) (some fi71) (.n .e (some fi199) .e)) (some fi39) (.n (.n (.n .e (some fi295) .e) (some fi167) .e) (some fi103) (.n .e (some fi231) .e))) (some fi23) (.n (.n (.n (.n .e (some fi279) .e) (some fi151) .e) (some fi87) (.n .e (some fi215) .e)) (some fi55) (.n (.n .e (some fi183) .e) (some fi119) (.n .e (some fi247) .e))))) (some fi3) (.n (.n (.n (.n (.n (.n .e (some fi259) .e) (some fi131) .e) (some fi67) (.n .e (some fi195) .e)) (some fi35) (.n (.n (.n .e (some fi291) .e) (some fi163) .e) (some fi99) (.n .e (some fi227) .e))) (some fi19) (.n (.n (.n (.n .e (some fi275) .e) (some fi147) .e) (some fi83) (.n .e (some fi211) .e)) (some fi51) (.n (.n .e (some fi179) .e) (some fi115) (.n .e (some fi243) .e)))) (some fi11) (.n (.n (.n (.n (.n .e (some fi267) .e) (some fi139) .e) (some fi75) (.n .e (some fi203) .e)) (some fi43) (.n (.n .e (some fi171) .e) (some fi107) (.n .e (some fi235) .e))) (some fi27) (.n (.n (.n (.n .e (some fi283) .e) (some fi155) .e) (some fi91) (.n .e (some fi219) .e)) (some fi59) (.n (.n .e (some fi187) .e) (some fi123) (.n .e (some fi251) .e)))))) none (.n (.n (.n (.n (.n (.n (.n .e (some fi257) .e) (some fi129) .e) (some fi65) (.n .e (some fi193) .e)) (some fi33) (.n (.n (.n .e (some fi289) .e) (some fi161) .e) (some fi97) (.n .e (some fi225) .e))) (some fi17) (.n (.n (.n (.n .e (some fi273) .e) (some fi145) .e) (some fi81) (.n .e (some fi209) .e)) (some fi49) (.n (.n .e (some fi177) .e) (some fi113) (.n .e (some fi241) .e)))) (some fi9) (.n (.n (.n (.n (.n .e (some fi265) .e) (some fi137) .e) (some fi73) (.n .e (some fi201) .e)) (some fi41) (.n (.n (.n .e (some fi297) .e) (some fi169) .e) (some fi105) (.n .e (some fi233) .e))) (some fi25) (.n (.n (.n (.n .e (some fi281) .e) (some fi153) .e) (some fi89) (.n .e (some fi217) .e)) (some fi57) (.n (.n .e (some fi185) .e) (some fi121) (.n .e (some fi249) .e))))) (some fi5) (.n (.n (.n (.n (.n (.n .e (some fi261) .e) (some fi133) .e) (some fi69) (.n .e (some fi197) .e)) (some fi37) (.n (.n (.n .e (some fi293) .e) (some fi165) .e) (some fi101) (.n .e (some fi229) .e))) (some fi21) (.n (.n (.n (.n .e (some fi277) .e) (some fi149) .e) (some fi85) (.n .e (some fi213) .e)) (some fi53) (.n (.n .e (some fi181) .e) (some fi117) (.n .e (some fi245) .e)))) (some fi13) (.n (.n (.n (.n (.n .e (some fi269) .e) (some fi141) .e) (some fi77) (.n .e (some fi205) .e)) (some fi45) (.n (.n (.n .e (some fi301) .e) (some fi173) .e) (some fi109) (.n .e (some fi237) .e))) (some fi29) (.n (.n (.n (.n .e (some fi285) .e) (some fi157) .e) (some fi93) (.n .e (some fi221) .e)) (some fi61) (.n (.n .e (some fi189) .e) (some fi125) (.n .e (some fi253) .e))))))) none (.n (.n (.n (.n (.n (.n (.n (.n .e (some fi256) .e) (some fi128) .e) (some fi64) (.n .e (some fi192) .e)) (some fi32) (.n (.n (.n .e (some fi288) .e) (some fi160) .e) (some fi96) (.n .e (some fi224) .e))) (some fi16) (.n (.n (.n (.n .e (some fi272) .e) (some fi144) .e) (some fi80) (.n .e (some fi208) .e)) (some fi48) (.n (.n (.n .e (some fi304) .e) (some fi176) .e) (some fi112) (.n .e (some fi240) .e)))) (some fi8) (.n (.n (.n (.n (.n .e (some fi264) .e) (some fi136) .e) (some fi72) (.n .e (some fi200) .e)) (some fi40) (.n (.n (.n .e (some fi296) .e) (some fi168) .e) (some fi104) (.n .e (some fi232) .e))) (some fi24) (.n (.n (.n (.n .e (some fi280) .e) (some fi152) .e) (some fi88) (.n .e (some fi216) .e)) (some fi56) (.n (.n .e (some fi184) .e) (some fi120) (.n .e (some fi248) .e))))) (some fi4) (.n (.n (.n (.n (.n (.n .e (some fi260) .e) (some fi132) .e) (some fi68) (.n .e (some fi196) .e)) (some fi36) (.n (.n (.n .e (some fi292) .e) (some fi164) .e) (some fi100) (.n .e (some fi228) .e))) (some fi20) (.n (.n (.n (.n .e (some fi276) .e) (some fi148) .e) (some fi84) (.n .e (some fi212) .e)) (some fi52) (.n (.n .e (some fi180) .e) (some fi116) (.n .e (some fi244) .e)))) (some fi12) (.n (.n (.n (.n (.n .e (some fi268) .e) (some fi140) .e) (some fi76) (.n .e (some fi204) .e)) (some fi44) (.n (.n (.n .e (some fi300) .e) (some fi172) .e) (some fi108) (.n .e (some fi236) .e))) (some fi28) (.n (.n (.n (.n .e (some fi284) .e) (some fi156) .e) (some fi92) (.n .e (some fi220) .e)) (some fi60) (.n (.n .e (some fi188) .e) (some fi124) (.n .e (some fi252) .e)))))) (some fi2) (.n (.n (.n (.n (.n (.n (.n .e (some fi258) .e) (some fi130) .e) (some fi66) (.n .e (some fi194) .e)) (some fi34) (.n (.n (.n .e (some fi290) .e) (some fi162) .e) (some fi98) (.n .e (some fi226) .e))) (some fi18) (.n (.n (.n (.n .e (some fi274) .e) (some fi146) .e) (some fi82) (.n .e (some fi210) .e)) (some fi50) (.n (.n .e (some fi178) .e) (some fi114) (.n .e (some fi242) .e)))) (some fi10) (.n (.n (.n (.n (.n .e (some fi266) .e) (some fi138) .e) (some fi74) (.n .e (some fi202) .e)) (some fi42) (.n (.n .e (some fi170) .e) (some fi106) (.n .e (some fi234) .e))) (some fi26) (.n (.n (.n (.n .e (some fi282) .e) (some fi154) .e) (some fi90) (.n .e (some fi218) .e)) (some fi58) (.n (.n .e (some fi186) .e) (some fi122) (.n .e (some fi250) .e))))) (some fi6) (.n (.n (.n (.n (.n (.n .e (some fi262) .e) (some fi134) .e) (some fi70) (.n .e (some fi198) .e)) (some fi38) (.n (.n (.n .e (some fi294) .e) (some fi166) .e) (some fi102) (.n .e (some fi230) .e))) (some fi22) (.n (.n (.n (.n .e (some fi278) .e) (some fi150) .e) (some fi86) (.n .e (some fi214) .e)) (some fi54) (.n (.n .e (some fi182) .e) (some fi118) (.n .e (some fi246) .e)))) (some fi14) (.n (.n (.n (.n .e (some fi142) .e) (some fi78) (.n .e (some fi206) .e)) (some fi46) (.n (.n (.n .e (some fi302) .e) (some fi174) .e) (some fi110) (.n .e (some fi238) .e))) (some fi30) (.n (.n (.n (.n .e (some fi286) .e) (some fi158) .e) (some fi94) (.n .e (some fi222) .e)) (some fi62) (.n (.n .e (some fi190) .e) (some fi126) (.n .e (some fi254) .e))))))))
set_option maxRecDepth 100000 in
theorem tyT_all : tyAll Tryz.prog tyT = true := by decide +kernel
set_option maxRecDepth 100000 in
theorem fnT_lt : fnT.all (ltB 325) 1 0 = true := by decide +kernel
set_option maxRecDepth 100000 in
theorem fnT_all : fnAll fnT Tryz.prog.funcs.toList 0 := ⟨.inr rfl, ⟨.inr rfl, ⟨.inl ⟨fi2, rfl, rfl, fi2_ok⟩, ⟨.inl ⟨fi3, rfl, rfl, fi3_ok⟩, ⟨.inl ⟨fi4, rfl, rfl, fi4_ok⟩, ⟨.inl ⟨fi5, rfl, rfl, fi5_ok⟩, ⟨.inl ⟨fi6, rfl, rfl, fi6_ok⟩, ⟨.inl ⟨fi7, rfl, rfl, fi7_ok⟩, ⟨.inl ⟨fi8, rfl, rfl, fi8_ok⟩, ⟨.inl ⟨fi9, rfl, rfl, fi9_ok⟩, ⟨.inl ⟨fi10, rfl, rfl, fi10_ok⟩, ⟨.inl ⟨fi11, rfl, rfl, fi11_ok⟩, ⟨.inl ⟨fi12, rfl, rfl, fi12_ok⟩, ⟨.inl ⟨fi13, rfl, rfl, fi13_ok⟩, ⟨.inl ⟨fi14, rfl, rfl, fi14_ok⟩, ⟨.inl ⟨fi15, rfl, rfl, fi15_ok⟩, ⟨.inl ⟨fi16, rfl, rfl, fi16_ok⟩, ⟨.inl ⟨fi17, rfl, rfl, fi17_ok⟩, ⟨.inl ⟨fi18, rfl, rfl, fi18_ok⟩, ⟨.inl ⟨fi19, rfl, rfl, fi19_ok⟩, ⟨.inl ⟨fi20, rfl, rfl, fi20_ok⟩, ⟨.inl ⟨fi21, rfl, rfl, fi21_ok⟩, ⟨.inl ⟨fi22, rfl, rfl, fi22_ok⟩, ⟨.inl ⟨fi23, rfl, rfl, fi23_ok⟩, ⟨.inl ⟨fi24, rfl, rfl, fi24_ok⟩, ⟨.inl ⟨fi25, rfl, rfl, fi25_ok⟩, ⟨.inl ⟨fi26, rfl, rfl, fi26_ok⟩, ⟨.inl ⟨fi27, rfl, rfl, fi27_ok⟩, ⟨.inl ⟨fi28, rfl, rfl, fi28_ok⟩, ⟨.inl ⟨fi29, rfl, rfl, fi29_ok⟩, ⟨.inl ⟨fi30, rfl, rfl, fi30_ok⟩, ⟨.inl ⟨fi31, rfl, rfl, fi31_ok⟩, ⟨.inl ⟨fi32, rfl, rfl, fi32_ok⟩, ⟨.inl ⟨fi33, rfl, rfl, fi33_ok⟩, ⟨.inl ⟨fi34, rfl, rfl, fi34_ok⟩, ⟨.inl ⟨fi35, rfl, rfl, fi35_ok⟩, ⟨.inl ⟨fi36, rfl, rfl, fi36_ok⟩, ⟨.inl ⟨fi37, rfl, rfl, fi37_ok⟩, ⟨.inl ⟨fi38, rfl, rfl, fi38_ok⟩, ⟨.inl ⟨fi39, rfl, rfl, fi39_ok⟩, ⟨.inl ⟨fi40, rfl, rfl, fi40_ok⟩, ⟨.inl ⟨fi41, rfl, rfl, fi41_ok⟩, ⟨.inl ⟨fi42, rfl, rfl, fi42_ok⟩, ⟨.inl ⟨fi43, rfl, rfl, fi43_ok⟩, ⟨.inl ⟨fi44, rfl, rfl, fi44_ok⟩, ⟨.inl ⟨fi45, rfl, rfl, fi45_ok⟩, ⟨.inl ⟨fi46, rfl, rfl, fi46_ok⟩, ⟨.inl ⟨fi47, rfl, rfl, fi47_ok⟩, ⟨.inl ⟨fi48, rfl, rfl, fi48_ok⟩, ⟨.inl ⟨fi49, rfl, rfl, fi49_ok⟩, ⟨.inl ⟨fi50, rfl, rfl, fi50_ok⟩, ⟨.inl ⟨fi51, rfl, rfl, fi51_ok⟩, ⟨.inl ⟨fi52, rfl, rfl, fi52_ok⟩, ⟨.inl ⟨fi53, rfl, rfl, fi53_ok⟩, ⟨.inl ⟨fi54, rfl, rfl, fi54_ok⟩, ⟨.inl ⟨fi55, rfl, rfl, fi55_ok⟩, ⟨.inl ⟨fi56, rfl, rfl, fi56_ok⟩, ⟨.inl ⟨fi57, rfl, rfl, fi57_ok⟩, ⟨.inl ⟨fi58, rfl, rfl, fi58_ok⟩, ⟨.inl ⟨fi59, rfl, rfl, fi59_ok⟩, ⟨.inl ⟨fi60, rfl, rfl, fi60_ok⟩, ⟨.inl ⟨fi61, rfl, rfl, fi61_ok⟩, ⟨.inl ⟨fi62, rfl, rfl, fi62_ok⟩, ⟨.inl ⟨fi63, rfl, rfl, fi63_ok⟩, ⟨.inl ⟨fi64, rfl, rfl, fi64_ok⟩, ⟨.inl ⟨fi65, rfl, rfl, fi65_ok⟩, ⟨.inl ⟨fi66, rfl, rfl, fi66_ok⟩, ⟨.inl ⟨fi67, rfl, rfl, fi67_ok⟩, ⟨.inl ⟨fi68, rfl, rfl, fi68_ok⟩, ⟨.inl ⟨fi69, rfl, rfl, fi69_ok⟩, ⟨.inl ⟨fi70, rfl, rfl, fi70_ok⟩, ⟨.inl ⟨fi71, rfl, rfl, fi71_ok⟩, ⟨.inl ⟨fi72, rfl, rfl, fi72_ok⟩, ⟨.inl ⟨fi73, rfl, rfl, fi73_ok⟩, ⟨.inl ⟨fi74, rfl, rfl, fi74_ok⟩, ⟨.inl ⟨fi75, rfl, rfl, fi75_ok⟩, ⟨.inl ⟨fi76, rfl, rfl, fi76_ok⟩, ⟨.inl ⟨fi77, rfl, rfl, fi77_ok⟩, ⟨.inl ⟨fi78, rfl, rfl, fi78_ok⟩, ⟨.inl ⟨fi79, rfl, rfl, fi79_ok⟩, ⟨.inl ⟨fi80, rfl, rfl, fi80_ok⟩, ⟨.inl ⟨fi81, rfl, rfl, fi81_ok⟩, ⟨.inl ⟨fi82, rfl, rfl, fi82_ok⟩, ⟨.inl ⟨fi83, rfl, rfl, fi83_ok⟩, ⟨.inl ⟨fi84, rfl, rfl, fi84_ok⟩, ⟨.inl ⟨fi85, rfl, rfl, fi85_ok⟩, ⟨.inl ⟨fi86, rfl, rfl, fi86_ok⟩, ⟨.inl ⟨fi87, rfl, rfl, fi87_ok⟩, ⟨.inl ⟨fi88, rfl, rfl, fi88_ok⟩, ⟨.inl ⟨fi89, rfl, rfl, fi89_ok⟩, ⟨.inl ⟨fi90, rfl, rfl, fi90_ok⟩, ⟨.inl ⟨fi91, rfl, rfl, fi91_ok⟩, ⟨.inl ⟨fi92, rfl, rfl, fi92_ok⟩, ⟨.inl ⟨fi93, rfl, rfl, fi93_ok⟩, ⟨.inl ⟨fi94, rfl, rfl, fi94_ok⟩, ⟨.inl ⟨fi95, rfl, rfl, fi95_ok⟩, ⟨.inl ⟨fi96, rfl, rfl, fi96_ok⟩, ⟨.inl ⟨fi97, rfl, rfl, fi97_ok⟩, ⟨.inl ⟨fi98, rfl, rfl, fi98_ok⟩, ⟨.inl ⟨fi99, rfl, rfl, fi99_ok⟩, ⟨.inl ⟨fi100, rfl, rfl, fi100_ok⟩, ⟨.inl ⟨fi101, rfl, rfl, fi101_ok⟩, ⟨.inl ⟨fi102, rfl, rfl, fi102_ok⟩, ⟨.inl ⟨fi103, rfl, rfl, fi103_ok⟩, ⟨.inl ⟨fi104, rfl, rfl, fi104_ok⟩, ⟨.inl ⟨fi105, rfl, rfl, fi105_ok⟩, ⟨.inl ⟨fi106, rfl, rfl, fi106_ok⟩, ⟨.inl ⟨fi107, rfl, rfl, fi107_ok⟩, ⟨.inl ⟨fi108, rfl, rfl, fi108_ok⟩, ⟨.inl ⟨fi109, rfl, rfl, fi109_ok⟩, ⟨.inl ⟨fi110, rfl, rfl, fi110_ok⟩, ⟨.inl ⟨fi111, rfl, rfl, fi111_ok⟩, ⟨.inl ⟨fi112, rfl, rfl, fi112_ok⟩, ⟨.inl ⟨fi113, rfl, rfl, fi113_ok⟩, ⟨.inl ⟨fi114, rfl, rfl, fi114_ok⟩, ⟨.inl ⟨fi115, rfl, rfl, fi115_ok⟩, ⟨.inl ⟨fi116, rfl, rfl, fi116_ok⟩, ⟨.inl ⟨fi117, rfl, rfl, fi117_ok⟩, ⟨.inl ⟨fi118, rfl, rfl, fi118_ok⟩, ⟨.inl ⟨fi119, rfl, rfl, fi119_ok⟩, ⟨.inl ⟨fi120, rfl, rfl, fi120_ok⟩, ⟨.inl ⟨fi121, rfl, rfl, fi121_ok⟩, ⟨.inl ⟨fi122, rfl, rfl, fi122_ok⟩, ⟨.inl ⟨fi123, rfl, rfl, fi123_ok⟩, ⟨.inl ⟨fi124, rfl, rfl, fi124_ok⟩, ⟨.inl ⟨fi125, rfl, rfl, fi125_ok⟩, ⟨.inl ⟨fi126, rfl, rfl, fi126_ok⟩, ⟨.inl ⟨fi127, rfl, rfl, fi127_ok⟩, ⟨.inl ⟨fi128, rfl, rfl, fi128_ok⟩, ⟨.inl ⟨fi129, rfl, rfl, fi129_ok⟩, ⟨.inl ⟨fi130, rfl, rfl, fi130_ok⟩, ⟨.inl ⟨fi131, rfl, rfl, fi131_ok⟩, ⟨.inl ⟨fi132, rfl, rfl, fi132_ok⟩, ⟨.inl ⟨fi133, rfl, rfl, fi133_ok⟩, ⟨.inl ⟨fi134, rfl, rfl, fi134_ok⟩, ⟨.inl ⟨fi135, rfl, rfl, fi135_ok⟩, ⟨.inl ⟨fi136, rfl, rfl, fi136_ok⟩, ⟨.inl ⟨fi137, rfl, rfl, fi137_ok⟩, ⟨.inl ⟨fi138, rfl, rfl, fi138_ok⟩, ⟨.inl ⟨fi139, rfl, rfl, fi139_ok⟩, ⟨.inl ⟨fi140, rfl, rfl, fi140_ok⟩, ⟨.inl ⟨fi141, rfl, rfl, fi141_ok⟩, ⟨.inl ⟨fi142, rfl, rfl, fi142_ok⟩, ⟨.inl ⟨fi143, rfl, rfl, fi143_ok⟩, ⟨.inl ⟨fi144, rfl, rfl, fi144_ok⟩, ⟨.inl ⟨fi145, rfl, rfl, fi145_ok⟩, ⟨.inl ⟨fi146, rfl, rfl, fi146_ok⟩, ⟨.inl ⟨fi147, rfl, rfl, fi147_ok⟩, ⟨.inl ⟨fi148, rfl, rfl, fi148_ok⟩, ⟨.inl ⟨fi149, rfl, rfl, fi149_ok⟩, ⟨.inl ⟨fi150, rfl, rfl, fi150_ok⟩, ⟨.inl ⟨fi151, rfl, rfl, fi151_ok⟩, ⟨.inl ⟨fi152, rfl, rfl, fi152_ok⟩, ⟨.inl ⟨fi153, rfl, rfl, fi153_ok⟩, ⟨.inl ⟨fi154, rfl, rfl, fi154_ok⟩, ⟨.inl ⟨fi155, rfl, rfl, fi155_ok⟩, ⟨.inl ⟨fi156, rfl, rfl, fi156_ok⟩, ⟨.inl ⟨fi157, rfl, rfl, fi157_ok⟩, ⟨.inl ⟨fi158, rfl, rfl, fi158_ok⟩, ⟨.inl ⟨fi159, rfl, rfl, fi159_ok⟩, ⟨.inl ⟨fi160, rfl, rfl, fi160_ok⟩, ⟨.inl ⟨fi161, rfl, rfl, fi161_ok⟩, ⟨.inl ⟨fi162, rfl, rfl, fi162_ok⟩, ⟨.inl ⟨fi163, rfl, rfl, fi163_ok⟩, ⟨.inl ⟨fi164, rfl, rfl, fi164_ok⟩, ⟨.inl ⟨fi165, rfl, rfl, fi165_ok⟩, ⟨.inl ⟨fi166, rfl, rfl, fi166_ok⟩, ⟨.inl ⟨fi167, rfl, rfl, fi167_ok⟩, ⟨.inl ⟨fi168, rfl, rfl, fi168_ok⟩, ⟨.inl ⟨fi169, rfl, rfl, fi169_ok⟩, ⟨.inl ⟨fi170, rfl, rfl, fi170_ok⟩, ⟨.inl ⟨fi171, rfl, rfl, fi171_ok⟩, ⟨.inl ⟨fi172, rfl, rfl, fi172_ok⟩, ⟨.inl ⟨fi173, rfl, rfl, fi173_ok⟩, ⟨.inl ⟨fi174, rfl, rfl, fi174_ok⟩, ⟨.inl ⟨fi175, rfl, rfl, fi175_ok⟩, ⟨.inl ⟨fi176, rfl, rfl, fi176_ok⟩, ⟨.inl ⟨fi177, rfl, rfl, fi177_ok⟩, ⟨.inl ⟨fi178, rfl, rfl, fi178_ok⟩, ⟨.inl ⟨fi179, rfl, rfl, fi179_ok⟩, ⟨.inl ⟨fi180, rfl, rfl, fi180_ok⟩, ⟨.inl ⟨fi181, rfl, rfl, fi181_ok⟩, ⟨.inl ⟨fi182, rfl, rfl, fi182_ok⟩, ⟨.inl ⟨fi183, rfl, rfl, fi183_ok⟩, ⟨.inl ⟨fi184, rfl, rfl, fi184_ok⟩, ⟨.inl ⟨fi185, rfl, rfl, fi185_ok⟩, ⟨.inl ⟨fi186, rfl, rfl, fi186_ok⟩, ⟨.inl ⟨fi187, rfl, rfl, fi187_ok⟩, ⟨.inl ⟨fi188, rfl, rfl, fi188_ok⟩, ⟨.inl ⟨fi189, rfl, rfl, fi189_ok⟩, ⟨.inl ⟨fi190, rfl, rfl, fi190_ok⟩, ⟨.inl ⟨fi191, rfl, rfl, fi191_ok⟩, ⟨.inl ⟨fi192, rfl, rfl, fi192_ok⟩, ⟨.inl ⟨fi193, rfl, rfl, fi193_ok⟩, ⟨.inl ⟨fi194, rfl, rfl, fi194_ok⟩, ⟨.inl ⟨fi195, rfl, rfl, fi195_ok⟩, ⟨.inl ⟨fi196, rfl, rfl, fi196_ok⟩, ⟨.inl ⟨fi197, rfl, rfl, fi197_ok⟩, ⟨.inl ⟨fi198, rfl, rfl, fi198_ok⟩, ⟨.inl ⟨fi199, rfl, rfl, fi199_ok⟩, ⟨.inl ⟨fi200, rfl, rfl, fi200_ok⟩, ⟨.inl ⟨fi201, rfl, rfl, fi201_ok⟩, ⟨.inl ⟨fi202, rfl, rfl, fi202_ok⟩, ⟨.inl ⟨fi203, rfl, rfl, fi203_ok⟩, ⟨.inl ⟨fi204, rfl, rfl, fi204_ok⟩, ⟨.inl ⟨fi205, rfl, rfl, fi205_ok⟩, ⟨.inl ⟨fi206, rfl, rfl, fi206_ok⟩, ⟨.inl ⟨fi207, rfl, rfl, fi207_ok⟩, ⟨.inl ⟨fi208, rfl, rfl, fi208_ok⟩, ⟨.inl ⟨fi209, rfl, rfl, fi209_ok⟩, ⟨.inl ⟨fi210, rfl, rfl, fi210_ok⟩, ⟨.inl ⟨fi211, rfl, rfl, fi211_ok⟩, ⟨.inl ⟨fi212, rfl, rfl, fi212_ok⟩, ⟨.inl ⟨fi213, rfl, rfl, fi213_ok⟩, ⟨.inl ⟨fi214, rfl, rfl, fi214_ok⟩, ⟨.inl ⟨fi215, rfl, rfl, fi215_ok⟩, ⟨.inl ⟨fi216, rfl, rfl, fi216_ok⟩, ⟨.inl ⟨fi217, rfl, rfl, fi217_ok⟩, ⟨.inl ⟨fi218, rfl, rfl, fi218_ok⟩, ⟨.inl ⟨fi219, rfl, rfl, fi219_ok⟩, ⟨.inl ⟨fi220, rfl, rfl, fi220_ok⟩, ⟨.inl ⟨fi221, rfl, rfl, fi221_ok⟩, ⟨.inl ⟨fi222, rfl, rfl, fi222_ok⟩, ⟨.inl ⟨fi223, rfl, rfl, fi223_ok⟩, ⟨.inl ⟨fi224, rfl, rfl, fi224_ok⟩, ⟨.inl ⟨fi225, rfl, rfl, fi225_ok⟩, ⟨.inl ⟨fi226, rfl, rfl, fi226_ok⟩, ⟨.inl ⟨fi227, rfl, rfl, fi227_ok⟩, ⟨.inl ⟨fi228, rfl, rfl, fi228_ok⟩, ⟨.inl ⟨fi229, rfl, rfl, fi229_ok⟩, ⟨.inl ⟨fi230, rfl, rfl, fi230_ok⟩, ⟨.inl ⟨fi231, rfl, rfl, fi231_ok⟩, ⟨.inl ⟨fi232, rfl, rfl, fi232_ok⟩, ⟨.inl ⟨fi233, rfl, rfl, fi233_ok⟩, ⟨.inl ⟨fi234, rfl, rfl, fi234_ok⟩, ⟨.inl ⟨fi235, rfl, rfl, fi235_ok⟩, ⟨.inl ⟨fi236, rfl, rfl, fi236_ok⟩, ⟨.inl ⟨fi237, rfl, rfl, fi237_ok⟩, ⟨.inl ⟨fi238, rfl, rfl, fi238_ok⟩, ⟨.inl ⟨fi239, rfl, rfl, fi239_ok⟩, ⟨.inl ⟨fi240, rfl, rfl, fi240_ok⟩, ⟨.inl ⟨fi241, rfl, rfl, fi241_ok⟩, ⟨.inl ⟨fi242, rfl, rfl, fi242_ok⟩, ⟨.inl ⟨fi243, rfl, rfl, fi243_ok⟩, ⟨.inl ⟨fi244, rfl, rfl, fi244_ok⟩, ⟨.inl ⟨fi245, rfl, rfl, fi245_ok⟩, ⟨.inl ⟨fi246, rfl, rfl, fi246_ok⟩, ⟨.inl ⟨fi247, rfl, rfl, fi247_ok⟩, ⟨.inl ⟨fi248, rfl, rfl, fi248_ok⟩, ⟨.inl ⟨fi249, rfl, rfl, fi249_ok⟩, ⟨.inl ⟨fi250, rfl, rfl, fi250_ok⟩, ⟨.inl ⟨fi251, rfl, rfl, fi251_ok⟩, ⟨.inl ⟨fi252, rfl, rfl, fi252_ok⟩, ⟨.inl ⟨fi253, rfl, rfl, fi253_ok⟩, ⟨.inl ⟨fi254, rfl, rfl, fi254_ok⟩, ⟨.inl ⟨fi255, rfl, rfl, fi255_ok⟩, ⟨.inl ⟨fi256, rfl, rfl, fi256_ok⟩, ⟨.inl ⟨fi257, rfl, rfl, fi257_ok⟩, ⟨.inl ⟨fi258, rfl, rfl, fi258_ok⟩, ⟨.inl ⟨fi259, rfl, rfl, fi259_ok⟩, ⟨.inl ⟨fi260, rfl, rfl, fi260_ok⟩, ⟨.inl ⟨fi261, rfl, rfl, fi261_ok⟩, ⟨.inl ⟨fi262, rfl, rfl, fi262_ok⟩, ⟨.inl ⟨fi263, rfl, rfl, fi263_ok⟩, ⟨.inl ⟨fi264, rfl, rfl, fi264_ok⟩, ⟨.inl ⟨fi265, rfl, rfl, fi265_ok⟩, ⟨.inl ⟨fi266, rfl, rfl, fi266_ok⟩, ⟨.inl ⟨fi267, rfl, rfl, fi267_ok⟩, ⟨.inl ⟨fi268, rfl, rfl, fi268_ok⟩, ⟨.inl ⟨fi269, rfl, rfl, fi269_ok⟩, ⟨.inr rfl, ⟨.inl ⟨fi271, rfl, rfl, fi271_ok⟩, ⟨.inl ⟨fi272, rfl, rfl, fi272_ok⟩, ⟨.inl ⟨fi273, rfl, rfl, fi273_ok⟩, ⟨.inl ⟨fi274, rfl, rfl, fi274_ok⟩, ⟨.inl ⟨fi275, rfl, rfl, fi275_ok⟩, ⟨.inl ⟨fi276, rfl, rfl, fi276_ok⟩, ⟨.inl ⟨fi277, rfl, rfl, fi277_ok⟩, ⟨.inl ⟨fi278, rfl, rfl, fi278_ok⟩, ⟨.inl ⟨fi279, rfl, rfl, fi279_ok⟩, ⟨.inl ⟨fi280, rfl, rfl, fi280_ok⟩, ⟨.inl ⟨fi281, rfl, rfl, fi281_ok⟩, ⟨.inl ⟨fi282, rfl, rfl, fi282_ok⟩, ⟨.inl ⟨fi283, rfl, rfl, fi283_ok⟩, ⟨.inl ⟨fi284, rfl, rfl, fi284_ok⟩, ⟨.inl ⟨fi285, rfl, rfl, fi285_ok⟩, ⟨.inl ⟨fi286, rfl, rfl, fi286_ok⟩, ⟨.inl ⟨fi287, rfl, rfl, fi287_ok⟩, ⟨.inl ⟨fi288, rfl, rfl, fi288_ok⟩, ⟨.inl ⟨fi289, rfl, rfl, fi289_ok⟩, ⟨.inl ⟨fi290, rfl, rfl, fi290_ok⟩, ⟨.inl ⟨fi291, rfl, rfl, fi291_ok⟩, ⟨.inl ⟨fi292, rfl, rfl, fi292_ok⟩, ⟨.inl ⟨fi293, rfl, rfl, fi293_ok⟩, ⟨.inl ⟨fi294, rfl, rfl, fi294_ok⟩, ⟨.inl ⟨fi295, rfl, rfl, fi295_ok⟩, ⟨.inl ⟨fi296, rfl, rfl, fi296_ok⟩, ⟨.inl ⟨fi297, rfl, rfl, fi297_ok⟩, ⟨.inr rfl, ⟨.inr rfl, ⟨.inl ⟨fi300, rfl, rfl, fi300_ok⟩, ⟨.inl ⟨fi301, rfl, rfl, fi301_ok⟩, ⟨.inl ⟨fi302, rfl, rfl, fi302_ok⟩, ⟨.inl ⟨fi303, rfl, rfl, fi303_ok⟩, ⟨.inl ⟨fi304, rfl, rfl, fi304_ok⟩, ⟨.inr rfl, ⟨.inr rfl, ⟨.inr rfl, ⟨.inr rfl, ⟨.inr rfl, ⟨.inr rfl, ⟨.inr rfl, ⟨.inr rfl, ⟨.inr rfl, ⟨.inr rfl, ⟨.inr rfl, ⟨.inr rfl, ⟨.inr rfl, ⟨.inr rfl, ⟨.inr rfl, ⟨.inr rfl, ⟨.inr rfl, ⟨.inr rfl, ⟨.inr rfl, ⟨.inr rfl, trivial⟩⟩⟩⟩⟩⟩⟩⟩⟩⟩⟩⟩⟩⟩⟩⟩⟩⟩⟩⟩⟩⟩⟩⟩⟩⟩⟩⟩⟩⟩⟩⟩⟩⟩⟩⟩⟩⟩⟩⟩⟩⟩⟩⟩⟩⟩⟩⟩⟩⟩⟩⟩⟩⟩⟩⟩⟩⟩⟩⟩⟩⟩⟩⟩⟩⟩⟩⟩⟩⟩⟩⟩⟩⟩⟩⟩⟩⟩⟩⟩⟩⟩⟩⟩⟩⟩⟩⟩⟩⟩⟩⟩⟩⟩⟩⟩⟩⟩⟩⟩⟩⟩⟩⟩⟩⟩⟩⟩⟩⟩⟩⟩⟩⟩⟩⟩⟩⟩⟩⟩⟩⟩⟩⟩⟩⟩⟩⟩⟩⟩⟩⟩⟩⟩⟩⟩⟩⟩⟩⟩⟩⟩⟩⟩⟩⟩⟩⟩⟩⟩⟩⟩⟩⟩⟩⟩⟩⟩⟩⟩⟩⟩⟩⟩⟩⟩⟩⟩⟩⟩⟩⟩⟩⟩⟩⟩⟩⟩⟩⟩⟩⟩⟩⟩⟩⟩⟩⟩⟩⟩⟩⟩⟩⟩⟩⟩⟩⟩⟩⟩⟩⟩⟩⟩⟩⟩⟩⟩⟩⟩⟩⟩⟩⟩⟩⟩⟩⟩⟩⟩⟩⟩⟩⟩⟩⟩⟩⟩⟩⟩⟩⟩⟩⟩⟩⟩⟩⟩⟩⟩⟩⟩⟩⟩⟩⟩⟩⟩⟩⟩⟩⟩⟩⟩⟩⟩⟩⟩⟩⟩⟩⟩⟩⟩⟩⟩⟩⟩⟩⟩⟩⟩⟩⟩⟩⟩⟩⟩⟩⟩⟩⟩⟩⟩⟩⟩⟩⟩⟩⟩⟩⟩⟩⟩⟩⟩⟩⟩⟩⟩⟩⟩⟩⟩⟩⟩⟩⟩⟩⟩⟩⟩⟩⟩⟩⟩⟩⟩⟩⟩⟩⟩⟩⟩⟩
end Go.Proofs.YtcdlhokeednjfaaGreat
