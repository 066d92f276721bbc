/- Several texts in one: Ed1, Ed2, Ed3, Ed4, Ed5, Ed6. What each proves stands ahead of it. -/
import Derived.Test.YtkbpafbbogjifaaGreatBc
import Derived.Test.YtkbpafbbogjifaaGreatProg
import Derived.KernelRfl
/- A table of calls; no conditions. -/
namespace Go.Proofs.YtkbpafbbogjifaaGreat
open Go Go.Proofs.Rn
theorem ed0 : Tryz.prog.leadsTo Tryz.f0 = [] := by kernel_rfl
theorem ip0 : inP Tryz.f0 = true := by kernel_rfl
theorem ed1 : Tryz.prog.leadsTo Tryz.f1 = [] := by kernel_rfl
theorem ip1 : inP Tryz.f1 = true := by kernel_rfl
theorem ed2 : Tryz.prog.leadsTo Tryz.f2 = [1] := by kernel_rfl
theorem ip2 : inP Tryz.f2 = false := by kernel_rfl
theorem ed3 : Tryz.prog.leadsTo Tryz.f3 = [4, 5, 6, 8, 7, 9, 10, 11, 12, 10, 13, 14, 15, 16, 17, 18, 19, 5] := by kernel_rfl
theorem ip3 : inP Tryz.f3 = false := by kernel_rfl
theorem ed4 : Tryz.prog.leadsTo Tryz.f4 = [20] := by kernel_rfl
theorem ip4 : inP Tryz.f4 = false := by kernel_rfl
theorem ed5 : Tryz.prog.leadsTo Tryz.f5 = [8, 6, 7, 10, 21, 14, 19, 17] := by kernel_rfl
theorem ip5 : inP Tryz.f5 = false := by kernel_rfl
theorem ed6 : Tryz.prog.leadsTo Tryz.f6 = [22] := by kernel_rfl
theorem ip6 : inP Tryz.f6 = false := by kernel_rfl
theorem ed7 : Tryz.prog.leadsTo Tryz.f7 = [23, 24, 25, 26, 27] := by kernel_rfl
theorem ip7 : inP Tryz.f7 = false := by kernel_rfl
theorem ed8 : Tryz.prog.leadsTo Tryz.f8 = [] := by kernel_rfl
theorem ip8 : inP Tryz.f8 = false := by kernel_rfl
theorem ed9 : Tryz.prog.leadsTo Tryz.f9 = [28] := by kernel_rfl
theorem ip9 : inP Tryz.f9 = false := by kernel_rfl
theorem ed10 : Tryz.prog.leadsTo Tryz.f10 = [29, 31, 30, 32, 33, 34, 35, 36] := by kernel_rfl
theorem ip10 : inP Tryz.f10 = false := by kernel_rfl
theorem ed11 : Tryz.prog.leadsTo Tryz.f11 = [29, 37, 38] := by kernel_rfl
theorem ip11 : inP Tryz.f11 = false := by kernel_rfl
theorem ed12 : Tryz.prog.leadsTo Tryz.f12 = [29, 39, 38] := by kernel_rfl
theorem ip12 : inP Tryz.f12 = false := by kernel_rfl
theorem ed13 : Tryz.prog.leadsTo Tryz.f13 = [29, 27, 40, 30, 36] := by kernel_rfl
theorem ip13 : inP Tryz.f13 = false := by kernel_rfl
theorem ed14 : Tryz.prog.leadsTo Tryz.f14 = [29, 41, 35, 42, 33, 36] := by kernel_rfl
theorem ip14 : inP Tryz.f14 = false := by kernel_rfl
theorem ed15 : Tryz.prog.leadsTo Tryz.f15 = [29, 43, 35, 36] := by kernel_rfl
theorem ip15 : inP Tryz.f15 = false := by kernel_rfl
theorem ed16 : Tryz.prog.leadsTo Tryz.f16 = [29, 44, 30, 36] := by kernel_rfl
theorem ip16 : inP Tryz.f16 = false := by kernel_rfl
theorem ed17 : Tryz.prog.leadsTo Tryz.f17 = [] := by kernel_rfl
theorem ip17 : inP Tryz.f17 = false := by kernel_rfl
theorem ed18 : Tryz.prog.leadsTo Tryz.f18 = [45] := by kernel_rfl
theorem ip18 : inP Tryz.f18 = false := by kernel_rfl
theorem ed19 : Tryz.prog.leadsTo Tryz.f19 = [33] := by kernel_rfl
theorem ip19 : inP Tryz.f19 = false := by kernel_rfl
theorem ed20 : Tryz.prog.leadsTo Tryz.f20 = [] := by kernel_rfl
theorem ip20 : inP Tryz.f20 = false := by kernel_rfl
theorem ed21 : Tryz.prog.leadsTo Tryz.f21 = [46] := by kernel_rfl
theorem ip21 : inP Tryz.f21 = false := by kernel_rfl
theorem ed22 : Tryz.prog.leadsTo Tryz.f22 = [] := by kernel_rfl
theorem ip22 : inP Tryz.f22 = false := by kernel_rfl
theorem ed23 : Tryz.prog.leadsTo Tryz.f23 = [47] := by kernel_rfl
theorem ip23 : inP Tryz.f23 = false := by kernel_rfl
theorem ed24 : Tryz.prog.leadsTo Tryz.f24 = [47, 48, 49, 50, 50, 51, 52, 53, 54] := by kernel_rfl
theorem ip24 : inP Tryz.f24 = false := by kernel_rfl
theorem ed25 : Tryz.prog.leadsTo Tryz.f25 = [55, 56, 57, 58] := by kernel_rfl
theorem ip25 : inP Tryz.f25 = false := by kernel_rfl
theorem ed26 : Tryz.prog.leadsTo Tryz.f26 = [59, 53, 60, 61] := by kernel_rfl
theorem ip26 : inP Tryz.f26 = false := by kernel_rfl
theorem ed27 : Tryz.prog.leadsTo Tryz.f27 = [62, 63, 64, 65, 64, 66, 68, 69, 70, 71, 72, 73] := by kernel_rfl
theorem ip27 : inP Tryz.f27 = false := by kernel_rfl
theorem ed28 : Tryz.prog.leadsTo Tryz.f28 = [74] := by kernel_rfl
theorem ip28 : inP Tryz.f28 = false := by kernel_rfl
theorem ed29 : Tryz.prog.leadsTo Tryz.f29 = [33] := by kernel_rfl
theorem ip29 : inP Tryz.f29 = false := by kernel_rfl
theorem ed30 : Tryz.prog.leadsTo Tryz.f30 = [] := by kernel_rfl
theorem ip30 : inP Tryz.f30 = false := by kernel_rfl
theorem ed31 : Tryz.prog.leadsTo Tryz.f31 = [59, 75, 76, 77, 78, 79, 80] := by kernel_rfl
theorem ip31 : inP Tryz.f31 = false := by kernel_rfl
theorem ed32 : Tryz.prog.leadsTo Tryz.f32 = [26, 33, 27, 82, 81, 42, 83, 84, 85, 86, 87, 84, 89, 88] := by kernel_rfl
theorem ip32 : inP Tryz.f32 = false := by kernel_rfl
theorem ed33 : Tryz.prog.leadsTo Tryz.f33 = [90, 52, 50, 91, 49] := by kernel_rfl
theorem ip33 : inP Tryz.f33 = false := by kernel_rfl
theorem ed34 : Tryz.prog.leadsTo Tryz.f34 = [92, 86, 93] := by kernel_rfl
theorem ip34 : inP Tryz.f34 = false := by kernel_rfl
theorem ed35 : Tryz.prog.leadsTo Tryz.f35 = [94, 30] := by kernel_rfl
theorem ip35 : inP Tryz.f35 = false := by kernel_rfl
theorem ed36 : Tryz.prog.leadsTo Tryz.f36 = [32, 29] := by kernel_rfl
theorem ip36 : inP Tryz.f36 = false := by kernel_rfl
theorem ed37 : Tryz.prog.leadsTo Tryz.f37 = [95, 96, 97, 98, 99, 49, 101, 91, 100, 102, 103] := by kernel_rfl
theorem ip37 : inP Tryz.f37 = false := by kernel_rfl
theorem ed38 : Tryz.prog.leadsTo Tryz.f38 = [30, 36, 29] := by kernel_rfl
theorem ip38 : inP Tryz.f38 = false := by kernel_rfl
theorem ed39 : Tryz.prog.leadsTo Tryz.f39 = [95, 104, 105, 91, 106, 107, 108] := by kernel_rfl
theorem ip39 : inP Tryz.f39 = false := by kernel_rfl
theorem ed40 : Tryz.prog.leadsTo Tryz.f40 = [59, 109, 52, 110, 111, 112, 80] := by kernel_rfl
theorem ip40 : inP Tryz.f40 = false := by kernel_rfl
theorem ed41 : Tryz.prog.leadsTo Tryz.f41 = [63, 64, 113, 64, 114, 115, 64, 116, 72, 117] := by kernel_rfl
theorem ip41 : inP Tryz.f41 = false := by kernel_rfl
theorem ed42 : Tryz.prog.leadsTo Tryz.f42 = [] := by kernel_rfl
theorem ip42 : inP Tryz.f42 = false := by kernel_rfl
theorem ed43 : Tryz.prog.leadsTo Tryz.f43 = [117, 113, 118, 118, 119, 120, 118, 121, 122] := by kernel_rfl
theorem ip43 : inP Tryz.f43 = false := by kernel_rfl
theorem ed44 : Tryz.prog.leadsTo Tryz.f44 = [95, 98, 123, 124, 125, 108] := by kernel_rfl
theorem ip44 : inP Tryz.f44 = false := by kernel_rfl
theorem ed45 : Tryz.prog.leadsTo Tryz.f45 = [126, 127, 128, 129, 130, 131] := by kernel_rfl
theorem ip45 : inP Tryz.f45 = false := by kernel_rfl
theorem ed46 : Tryz.prog.leadsTo Tryz.f46 = [132] := by kernel_rfl
theorem ip46 : inP Tryz.f46 = false := by kernel_rfl
theorem ed47 : Tryz.prog.leadsTo Tryz.f47 = [133] := by kernel_rfl
theorem ip47 : inP Tryz.f47 = false := by kernel_rfl
theorem ed48 : Tryz.prog.leadsTo Tryz.f48 = [134, 135, 136, 137, 138, 139] := by kernel_rfl
theorem ip48 : inP Tryz.f48 = false := by kernel_rfl
theorem ed49 : Tryz.prog.leadsTo Tryz.f49 = [] := by kernel_rfl
theorem ip49 : inP Tryz.f49 = false := by kernel_rfl
theorem ed50 : Tryz.prog.leadsTo Tryz.f50 = [53] := by kernel_rfl
theorem ip50 : inP Tryz.f50 = false := by kernel_rfl
theorem ed51 : Tryz.prog.leadsTo Tryz.f51 = [91, 140] := by kernel_rfl
theorem ip51 : inP Tryz.f51 = false := by kernel_rfl
theorem ed52 : Tryz.prog.leadsTo Tryz.f52 = [141] := by kernel_rfl
theorem ip52 : inP Tryz.f52 = false := by kernel_rfl
theorem ed53 : Tryz.prog.leadsTo Tryz.f53 = [142, 136] := by kernel_rfl
theorem ip53 : inP Tryz.f53 = false := by kernel_rfl
theorem ed54 : Tryz.prog.leadsTo Tryz.f54 = [91, 143] := by kernel_rfl
theorem ip54 : inP Tryz.f54 = false := by kernel_rfl
theorem ed55 : Tryz.prog.leadsTo Tryz.f55 = [] := by kernel_rfl
theorem ip55 : inP Tryz.f55 = false := by kernel_rfl
theorem ed56 : Tryz.prog.leadsTo Tryz.f56 = [144] := by kernel_rfl
theorem ip56 : inP Tryz.f56 = false := by kernel_rfl
theorem ed57 : Tryz.prog.leadsTo Tryz.f57 = [] := by kernel_rfl
theorem ip57 : inP Tryz.f57 = false := by kernel_rfl
theorem ed58 : Tryz.prog.leadsTo Tryz.f58 = [] := by kernel_rfl
theorem ip58 : inP Tryz.f58 = false := by kernel_rfl
theorem ed59 : Tryz.prog.leadsTo Tryz.f59 = [90] := by kernel_rfl
theorem ip59 : inP Tryz.f59 = false := by kernel_rfl
theorem ed60 : Tryz.prog.leadsTo Tryz.f60 = [142, 145] := by kernel_rfl
theorem ip60 : inP Tryz.f60 = false := by kernel_rfl
theorem ed61 : Tryz.prog.leadsTo Tryz.f61 = [147, 146] := by kernel_rfl
theorem ip61 : inP Tryz.f61 = false := by kernel_rfl
theorem ed62 : Tryz.prog.leadsTo Tryz.f62 = [148, 149] := by kernel_rfl
theorem ip62 : inP Tryz.f62 = false := by kernel_rfl
theorem ed63 : Tryz.prog.leadsTo Tryz.f63 = [] := by kernel_rfl
theorem ip63 : inP Tryz.f63 = false := by kernel_rfl
theorem ed64 : Tryz.prog.leadsTo Tryz.f64 = [150] := by kernel_rfl
theorem ip64 : inP Tryz.f64 = false := by kernel_rfl
theorem ed65 : Tryz.prog.leadsTo Tryz.f65 = [55, 151, 64, 64, 114, 152, 64, 64, 115, 153, 67, 154] := by kernel_rfl
theorem ip65 : inP Tryz.f65 = false := by kernel_rfl
theorem ed66 : Tryz.prog.leadsTo Tryz.f66 = [67] := by kernel_rfl
theorem ip66 : inP Tryz.f66 = false := by kernel_rfl
theorem ed67 : Tryz.prog.leadsTo Tryz.f67 = [] := by kernel_rfl
theorem ip67 : inP Tryz.f67 = false := by kernel_rfl
theorem ed68 : Tryz.prog.leadsTo Tryz.f68 = [155, 64, 64, 67, 156, 154] := by kernel_rfl
theorem ip68 : inP Tryz.f68 = false := by kernel_rfl
theorem ed69 : Tryz.prog.leadsTo Tryz.f69 = [116, 64, 64, 64, 64, 64, 67, 157, 154] := by kernel_rfl
theorem ip69 : inP Tryz.f69 = false := by kernel_rfl
theorem ed70 : Tryz.prog.leadsTo Tryz.f70 = [158, 64, 64, 64, 64, 67, 159, 154] := by kernel_rfl
theorem ip70 : inP Tryz.f70 = false := by kernel_rfl
theorem ed71 : Tryz.prog.leadsTo Tryz.f71 = [58, 64, 64, 64, 160, 161, 67, 154] := by kernel_rfl
theorem ip71 : inP Tryz.f71 = false := by kernel_rfl
theorem ed72 : Tryz.prog.leadsTo Tryz.f72 = [] := by kernel_rfl
theorem ip72 : inP Tryz.f72 = false := by kernel_rfl
theorem ed73 : Tryz.prog.leadsTo Tryz.f73 = [162, 163, 152, 161, 127, 131, 164, 165] := by kernel_rfl
theorem ip73 : inP Tryz.f73 = false := by kernel_rfl
theorem ed74 : Tryz.prog.leadsTo Tryz.f74 = [] := by kernel_rfl
theorem ip74 : inP Tryz.f74 = false := by kernel_rfl
theorem ed75 : Tryz.prog.leadsTo Tryz.f75 = [104] := by kernel_rfl
theorem ip75 : inP Tryz.f75 = false := by kernel_rfl
theorem ed76 : Tryz.prog.leadsTo Tryz.f76 = [52, 166, 167, 101, 52, 91, 51, 106] := by kernel_rfl
theorem ip76 : inP Tryz.f76 = false := by kernel_rfl
theorem ed77 : Tryz.prog.leadsTo Tryz.f77 = [169, 168] := by kernel_rfl
theorem ip77 : inP Tryz.f77 = false := by kernel_rfl
theorem ed78 : Tryz.prog.leadsTo Tryz.f78 = [170] := by kernel_rfl
theorem ip78 : inP Tryz.f78 = false := by kernel_rfl
theorem ed79 : Tryz.prog.leadsTo Tryz.f79 = [171, 124] := by kernel_rfl
theorem ip79 : inP Tryz.f79 = false := by kernel_rfl
theorem ed80 : Tryz.prog.leadsTo Tryz.f80 = [] := by kernel_rfl
theorem ip80 : inP Tryz.f80 = false := by kernel_rfl
theorem ed81 : Tryz.prog.leadsTo Tryz.f81 = [] := by kernel_rfl
theorem ip81 : inP Tryz.f81 = false := by kernel_rfl
theorem ed82 : Tryz.prog.leadsTo Tryz.f82 = [] := by kernel_rfl
theorem ip82 : inP Tryz.f82 = false := by kernel_rfl
theorem ed83 : Tryz.prog.leadsTo Tryz.f83 = [172, 173, 81, 42, 42] := by kernel_rfl
theorem ip83 : inP Tryz.f83 = false := by kernel_rfl
theorem ed84 : Tryz.prog.leadsTo Tryz.f84 = [] := by kernel_rfl
theorem ip84 : inP Tryz.f84 = false := by kernel_rfl
theorem ed85 : Tryz.prog.leadsTo Tryz.f85 = [126] := by kernel_rfl
theorem ip85 : inP Tryz.f85 = false := by kernel_rfl
theorem ed86 : Tryz.prog.leadsTo Tryz.f86 = [126, 174] := by kernel_rfl
theorem ip86 : inP Tryz.f86 = false := by kernel_rfl
theorem ed87 : Tryz.prog.leadsTo Tryz.f87 = [126] := by kernel_rfl
theorem ip87 : inP Tryz.f87 = false := by kernel_rfl
theorem ed88 : Tryz.prog.leadsTo Tryz.f88 = [59, 50, 140, 143, 176, 175, 54] := by kernel_rfl
theorem ip88 : inP Tryz.f88 = false := by kernel_rfl
theorem ed89 : Tryz.prog.leadsTo Tryz.f89 = [177, 178] := by kernel_rfl
theorem ip89 : inP Tryz.f89 = false := by kernel_rfl
theorem ed90 : Tryz.prog.leadsTo Tryz.f90 = [] := by kernel_rfl
theorem ip90 : inP Tryz.f90 = false := by kernel_rfl
theorem ed91 : Tryz.prog.leadsTo Tryz.f91 = [142, 179] := by kernel_rfl
theorem ip91 : inP Tryz.f91 = false := by kernel_rfl
theorem ed92 : Tryz.prog.leadsTo Tryz.f92 = [43] := by kernel_rfl
theorem ip92 : inP Tryz.f92 = false := by kernel_rfl
theorem ed93 : Tryz.prog.leadsTo Tryz.f93 = [126, 86, 180] := by kernel_rfl
theorem ip93 : inP Tryz.f93 = false := by kernel_rfl
theorem ed94 : Tryz.prog.leadsTo Tryz.f94 = [95, 99, 103] := by kernel_rfl
theorem ip94 : inP Tryz.f94 = false := by kernel_rfl
theorem ed95 : Tryz.prog.leadsTo Tryz.f95 = [59] := by kernel_rfl
theorem ip95 : inP Tryz.f95 = false := by kernel_rfl
theorem ed96 : Tryz.prog.leadsTo Tryz.f96 = [181, 181, 133, 133] := by kernel_rfl
theorem ip96 : inP Tryz.f96 = false := by kernel_rfl
theorem ed97 : Tryz.prog.leadsTo Tryz.f97 = [182] := by kernel_rfl
theorem ip97 : inP Tryz.f97 = false := by kernel_rfl
theorem ed98 : Tryz.prog.leadsTo Tryz.f98 = [140, 52] := by kernel_rfl
theorem ip98 : inP Tryz.f98 = false := by kernel_rfl
theorem ed99 : Tryz.prog.leadsTo Tryz.f99 = [91, 50] := by kernel_rfl
theorem ip99 : inP Tryz.f99 = false := by kernel_rfl
theorem ed100 : Tryz.prog.leadsTo Tryz.f100 = [184, 183] := by kernel_rfl
theorem ip100 : inP Tryz.f100 = false := by kernel_rfl
theorem ed101 : Tryz.prog.leadsTo Tryz.f101 = [49, 186, 185] := by kernel_rfl
theorem ip101 : inP Tryz.f101 = false := by kernel_rfl
theorem ed102 : Tryz.prog.leadsTo Tryz.f102 = [133, 181, 118, 122] := by kernel_rfl
theorem ip102 : inP Tryz.f102 = false := by kernel_rfl
theorem ed103 : Tryz.prog.leadsTo Tryz.f103 = [187, 91, 124, 188, 108] := by kernel_rfl
theorem ip103 : inP Tryz.f103 = false := by kernel_rfl
theorem ed104 : Tryz.prog.leadsTo Tryz.f104 = [189] := by kernel_rfl
theorem ip104 : inP Tryz.f104 = false := by kernel_rfl
theorem ed105 : Tryz.prog.leadsTo Tryz.f105 = [190] := by kernel_rfl
theorem ip105 : inP Tryz.f105 = false := by kernel_rfl
theorem ed106 : Tryz.prog.leadsTo Tryz.f106 = [52] := by kernel_rfl
theorem ip106 : inP Tryz.f106 = false := by kernel_rfl
theorem ed107 : Tryz.prog.leadsTo Tryz.f107 = [105, 50, 53, 191, 106, 140, 191, 60, 106] := by kernel_rfl
theorem ip107 : inP Tryz.f107 = false := by kernel_rfl
theorem ed108 : Tryz.prog.leadsTo Tryz.f108 = [80, 59] := by kernel_rfl
theorem ip108 : inP Tryz.f108 = false := by kernel_rfl
theorem ed109 : Tryz.prog.leadsTo Tryz.f109 = [192, 192, 193, 194, 195] := by kernel_rfl
theorem ip109 : inP Tryz.f109 = false := by kernel_rfl
end Go.Proofs.YtkbpafbbogjifaaGreat

/- A table of calls; no conditions. -/
namespace Go.Proofs.YtkbpafbbogjifaaGreat
open Go Go.Proofs.Rn
theorem ed110 : Tryz.prog.leadsTo Tryz.f110 = [106, 106, 106] := by kernel_rfl
theorem ip110 : inP Tryz.f110 = false := by kernel_rfl
theorem ed111 : Tryz.prog.leadsTo Tryz.f111 = [196, 197, 175, 78] := by kernel_rfl
theorem ip111 : inP Tryz.f111 = false := by kernel_rfl
theorem ed112 : Tryz.prog.leadsTo Tryz.f112 = [52, 196, 198, 106, 199, 200, 201, 104, 167, 202] := by kernel_rfl
theorem ip112 : inP Tryz.f112 = false := by kernel_rfl
theorem ed113 : Tryz.prog.leadsTo Tryz.f113 = [] := by kernel_rfl
theorem ip113 : inP Tryz.f113 = false := by kernel_rfl
theorem ed114 : Tryz.prog.leadsTo Tryz.f114 = [116, 64, 64, 64, 67, 203, 154] := by kernel_rfl
theorem ip114 : inP Tryz.f114 = false := by kernel_rfl
theorem ed115 : Tryz.prog.leadsTo Tryz.f115 = [204, 67, 205, 154] := by kernel_rfl
theorem ip115 : inP Tryz.f115 = false := by kernel_rfl
theorem ed116 : Tryz.prog.leadsTo Tryz.f116 = [150] := by kernel_rfl
theorem ip116 : inP Tryz.f116 = false := by kernel_rfl
theorem ed117 : Tryz.prog.leadsTo Tryz.f117 = [113, 207, 206, 203, 205] := by kernel_rfl
theorem ip117 : inP Tryz.f117 = false := by kernel_rfl
theorem ed118 : Tryz.prog.leadsTo Tryz.f118 = [208] := by kernel_rfl
theorem ip118 : inP Tryz.f118 = false := by kernel_rfl
theorem ed119 : Tryz.prog.leadsTo Tryz.f119 = [121, 118, 118] := by kernel_rfl
theorem ip119 : inP Tryz.f119 = false := by kernel_rfl
theorem ed120 : Tryz.prog.leadsTo Tryz.f120 = [118, 118, 118] := by kernel_rfl
theorem ip120 : inP Tryz.f120 = false := by kernel_rfl
theorem ed121 : Tryz.prog.leadsTo Tryz.f121 = [208, 208] := by kernel_rfl
theorem ip121 : inP Tryz.f121 = false := by kernel_rfl
theorem ed122 : Tryz.prog.leadsTo Tryz.f122 = [149] := by kernel_rfl
theorem ip122 : inP Tryz.f122 = false := by kernel_rfl
theorem ed123 : Tryz.prog.leadsTo Tryz.f123 = [209, 171] := by kernel_rfl
theorem ip123 : inP Tryz.f123 = false := by kernel_rfl
theorem ed124 : Tryz.prog.leadsTo Tryz.f124 = [210, 107] := by kernel_rfl
theorem ip124 : inP Tryz.f124 = false := by kernel_rfl
theorem ed125 : Tryz.prog.leadsTo Tryz.f125 = [191, 212, 211] := by kernel_rfl
theorem ip125 : inP Tryz.f125 = false := by kernel_rfl
theorem ed126 : Tryz.prog.leadsTo Tryz.f126 = [] := by kernel_rfl
theorem ip126 : inP Tryz.f126 = false := by kernel_rfl
theorem ed127 : Tryz.prog.leadsTo Tryz.f127 = [213, 214, 215] := by kernel_rfl
theorem ip127 : inP Tryz.f127 = false := by kernel_rfl
theorem ed128 : Tryz.prog.leadsTo Tryz.f128 = [216] := by kernel_rfl
theorem ip128 : inP Tryz.f128 = false := by kernel_rfl
theorem ed129 : Tryz.prog.leadsTo Tryz.f129 = [217, 218, 162] := by kernel_rfl
theorem ip129 : inP Tryz.f129 = false := by kernel_rfl
theorem ed130 : Tryz.prog.leadsTo Tryz.f130 = [219, 220] := by kernel_rfl
theorem ip130 : inP Tryz.f130 = false := by kernel_rfl
theorem ed131 : Tryz.prog.leadsTo Tryz.f131 = [221, 58, 222] := by kernel_rfl
theorem ip131 : inP Tryz.f131 = false := by kernel_rfl
theorem ed132 : Tryz.prog.leadsTo Tryz.f132 = [223, 224, 224, 224, 224, 225, 226, 224, 227] := by kernel_rfl
theorem ip132 : inP Tryz.f132 = false := by kernel_rfl
theorem ed133 : Tryz.prog.leadsTo Tryz.f133 = [181, 228, 97] := by kernel_rfl
theorem ip133 : inP Tryz.f133 = false := by kernel_rfl
theorem ed134 : Tryz.prog.leadsTo Tryz.f134 = [229, 230] := by kernel_rfl
theorem ip134 : inP Tryz.f134 = false := by kernel_rfl
theorem ed135 : Tryz.prog.leadsTo Tryz.f135 = [231, 232, 233] := by kernel_rfl
theorem ip135 : inP Tryz.f135 = false := by kernel_rfl
theorem ed136 : Tryz.prog.leadsTo Tryz.f136 = [234, 235] := by kernel_rfl
theorem ip136 : inP Tryz.f136 = false := by kernel_rfl
theorem ed137 : Tryz.prog.leadsTo Tryz.f137 = [232, 236, 237, 179, 139] := by kernel_rfl
theorem ip137 : inP Tryz.f137 = false := by kernel_rfl
theorem ed138 : Tryz.prog.leadsTo Tryz.f138 = [238, 179, 239] := by kernel_rfl
theorem ip138 : inP Tryz.f138 = false := by kernel_rfl
theorem ed139 : Tryz.prog.leadsTo Tryz.f139 = [238, 240] := by kernel_rfl
theorem ip139 : inP Tryz.f139 = false := by kernel_rfl
theorem ed140 : Tryz.prog.leadsTo Tryz.f140 = [241, 53, 242] := by kernel_rfl
theorem ip140 : inP Tryz.f140 = false := by kernel_rfl
theorem ed141 : Tryz.prog.leadsTo Tryz.f141 = [142, 243] := by kernel_rfl
theorem ip141 : inP Tryz.f141 = false := by kernel_rfl
theorem ed142 : Tryz.prog.leadsTo Tryz.f142 = [] := by kernel_rfl
theorem ip142 : inP Tryz.f142 = false := by kernel_rfl
theorem ed143 : Tryz.prog.leadsTo Tryz.f143 = [50, 242, 244, 53] := by kernel_rfl
theorem ip143 : inP Tryz.f143 = false := by kernel_rfl
theorem ed144 : Tryz.prog.leadsTo Tryz.f144 = [245, 246] := by kernel_rfl
theorem ip144 : inP Tryz.f144 = false := by kernel_rfl
theorem ed145 : Tryz.prog.leadsTo Tryz.f145 = [238, 179, 247, 247, 239] := by kernel_rfl
theorem ip145 : inP Tryz.f145 = false := by kernel_rfl
theorem ed146 : Tryz.prog.leadsTo Tryz.f146 = [209] := by kernel_rfl
theorem ip146 : inP Tryz.f146 = false := by kernel_rfl
theorem ed147 : Tryz.prog.leadsTo Tryz.f147 = [] := by kernel_rfl
theorem ip147 : inP Tryz.f147 = false := by kernel_rfl
theorem ed148 : Tryz.prog.leadsTo Tryz.f148 = [248, 249] := by kernel_rfl
theorem ip148 : inP Tryz.f148 = false := by kernel_rfl
theorem ed149 : Tryz.prog.leadsTo Tryz.f149 = [] := by kernel_rfl
theorem ip149 : inP Tryz.f149 = false := by kernel_rfl
theorem ed150 : Tryz.prog.leadsTo Tryz.f150 = [250, 154, 154, 154] := by kernel_rfl
theorem ip150 : inP Tryz.f150 = false := by kernel_rfl
theorem ed151 : Tryz.prog.leadsTo Tryz.f151 = [] := by kernel_rfl
theorem ip151 : inP Tryz.f151 = false := by kernel_rfl
theorem ed152 : Tryz.prog.leadsTo Tryz.f152 = [213, 203, 251, 253, 252] := by kernel_rfl
theorem ip152 : inP Tryz.f152 = false := by kernel_rfl
theorem ed153 : Tryz.prog.leadsTo Tryz.f153 = [213, 205, 255] := by kernel_rfl
theorem ip153 : inP Tryz.f153 = false := by kernel_rfl
theorem ed154 : Tryz.prog.leadsTo Tryz.f154 = [] := by kernel_rfl
theorem ip154 : inP Tryz.f154 = false := by kernel_rfl
theorem ed155 : Tryz.prog.leadsTo Tryz.f155 = [64] := by kernel_rfl
theorem ip155 : inP Tryz.f155 = false := by kernel_rfl
theorem ed156 : Tryz.prog.leadsTo Tryz.f156 = [256, 256, 256, 256] := by kernel_rfl
theorem ip156 : inP Tryz.f156 = false := by kernel_rfl
theorem ed157 : Tryz.prog.leadsTo Tryz.f157 = [257, 258, 257, 259] := by kernel_rfl
theorem ip157 : inP Tryz.f157 = false := by kernel_rfl
theorem ed158 : Tryz.prog.leadsTo Tryz.f158 = [64] := by kernel_rfl
theorem ip158 : inP Tryz.f158 = false := by kernel_rfl
theorem ed159 : Tryz.prog.leadsTo Tryz.f159 = [260, 261] := by kernel_rfl
theorem ip159 : inP Tryz.f159 = false := by kernel_rfl
theorem ed160 : Tryz.prog.leadsTo Tryz.f160 = [64, 116, 262, 68, 67, 263, 154] := by kernel_rfl
theorem ip160 : inP Tryz.f160 = false := by kernel_rfl
theorem ed161 : Tryz.prog.leadsTo Tryz.f161 = [221, 263, 264, 265] := by kernel_rfl
theorem ip161 : inP Tryz.f161 = false := by kernel_rfl
theorem ed162 : Tryz.prog.leadsTo Tryz.f162 = [157, 56, 266] := by kernel_rfl
theorem ip162 : inP Tryz.f162 = false := by kernel_rfl
theorem ed163 : Tryz.prog.leadsTo Tryz.f163 = [159, 220] := by kernel_rfl
theorem ip163 : inP Tryz.f163 = false := by kernel_rfl
theorem ed164 : Tryz.prog.leadsTo Tryz.f164 = [267, 156, 86, 268, 269, 86] := by kernel_rfl
theorem ip164 : inP Tryz.f164 = false := by kernel_rfl
theorem ed165 : Tryz.prog.leadsTo Tryz.f165 = [270] := by kernel_rfl
theorem ip165 : inP Tryz.f165 = false := by kernel_rfl
theorem ed166 : Tryz.prog.leadsTo Tryz.f166 = [271, 272, 273] := by kernel_rfl
theorem ip166 : inP Tryz.f166 = false := by kernel_rfl
theorem ed167 : Tryz.prog.leadsTo Tryz.f167 = [52, 52, 197, 175, 166, 274, 101, 91, 51, 106] := by kernel_rfl
theorem ip167 : inP Tryz.f167 = false := by kernel_rfl
theorem ed168 : Tryz.prog.leadsTo Tryz.f168 = [133, 275] := by kernel_rfl
theorem ip168 : inP Tryz.f168 = false := by kernel_rfl
theorem ed169 : Tryz.prog.leadsTo Tryz.f169 = [105] := by kernel_rfl
theorem ip169 : inP Tryz.f169 = false := by kernel_rfl
theorem ed170 : Tryz.prog.leadsTo Tryz.f170 = [146, 276] := by kernel_rfl
theorem ip170 : inP Tryz.f170 = false := by kernel_rfl
theorem ed171 : Tryz.prog.leadsTo Tryz.f171 = [209] := by kernel_rfl
theorem ip171 : inP Tryz.f171 = false := by kernel_rfl
theorem ed172 : Tryz.prog.leadsTo Tryz.f172 = [126, 41, 86, 277, 278, 279, 161] := by kernel_rfl
theorem ip172 : inP Tryz.f172 = false := by kernel_rfl
theorem ed173 : Tryz.prog.leadsTo Tryz.f173 = [] := by kernel_rfl
theorem ip173 : inP Tryz.f173 = false := by kernel_rfl
theorem ed174 : Tryz.prog.leadsTo Tryz.f174 = [280] := by kernel_rfl
theorem ip174 : inP Tryz.f174 = false := by kernel_rfl
theorem ed175 : Tryz.prog.leadsTo Tryz.f175 = [] := by kernel_rfl
theorem ip175 : inP Tryz.f175 = false := by kernel_rfl
theorem ed176 : Tryz.prog.leadsTo Tryz.f176 = [241, 281, 282, 139, 138, 283, 282] := by kernel_rfl
theorem ip176 : inP Tryz.f176 = false := by kernel_rfl
theorem ed177 : Tryz.prog.leadsTo Tryz.f177 = [284, 118, 285, 118, 286, 287, 288, 289, 122] := by kernel_rfl
theorem ip177 : inP Tryz.f177 = false := by kernel_rfl
theorem ed178 : Tryz.prog.leadsTo Tryz.f178 = [290] := by kernel_rfl
theorem ip178 : inP Tryz.f178 = false := by kernel_rfl
theorem ed179 : Tryz.prog.leadsTo Tryz.f179 = [238] := by kernel_rfl
theorem ip179 : inP Tryz.f179 = false := by kernel_rfl
theorem ed180 : Tryz.prog.leadsTo Tryz.f180 = [219, 292, 291, 294] := by kernel_rfl
theorem ip180 : inP Tryz.f180 = false := by kernel_rfl
theorem ed181 : Tryz.prog.leadsTo Tryz.f181 = [295] := by kernel_rfl
theorem ip181 : inP Tryz.f181 = false := by kernel_rfl
theorem ed182 : Tryz.prog.leadsTo Tryz.f182 = [] := by kernel_rfl
theorem ip182 : inP Tryz.f182 = false := by kernel_rfl
theorem ed183 : Tryz.prog.leadsTo Tryz.f183 = [] := by kernel_rfl
theorem ip183 : inP Tryz.f183 = false := by kernel_rfl
theorem ed184 : Tryz.prog.leadsTo Tryz.f184 = [104] := by kernel_rfl
theorem ip184 : inP Tryz.f184 = false := by kernel_rfl
theorem ed185 : Tryz.prog.leadsTo Tryz.f185 = [296] := by kernel_rfl
theorem ip185 : inP Tryz.f185 = false := by kernel_rfl
theorem ed186 : Tryz.prog.leadsTo Tryz.f186 = [] := by kernel_rfl
theorem ip186 : inP Tryz.f186 = false := by kernel_rfl
theorem ed187 : Tryz.prog.leadsTo Tryz.f187 = [52, 297, 175, 54] := by kernel_rfl
theorem ip187 : inP Tryz.f187 = false := by kernel_rfl
theorem ed188 : Tryz.prog.leadsTo Tryz.f188 = [91, 298, 140, 52, 124, 75, 78] := by kernel_rfl
theorem ip188 : inP Tryz.f188 = false := by kernel_rfl
theorem ed189 : Tryz.prog.leadsTo Tryz.f189 = [299] := by kernel_rfl
theorem ip189 : inP Tryz.f189 = false := by kernel_rfl
theorem ed190 : Tryz.prog.leadsTo Tryz.f190 = [] := by kernel_rfl
theorem ip190 : inP Tryz.f190 = false := by kernel_rfl
theorem ed191 : Tryz.prog.leadsTo Tryz.f191 = [209] := by kernel_rfl
theorem ip191 : inP Tryz.f191 = false := by kernel_rfl
theorem ed192 : Tryz.prog.leadsTo Tryz.f192 = [] := by kernel_rfl
theorem ip192 : inP Tryz.f192 = false := by kernel_rfl
theorem ed193 : Tryz.prog.leadsTo Tryz.f193 = [300, 244] := by kernel_rfl
theorem ip193 : inP Tryz.f193 = false := by kernel_rfl
theorem ed194 : Tryz.prog.leadsTo Tryz.f194 = [301] := by kernel_rfl
theorem ip194 : inP Tryz.f194 = false := by kernel_rfl
theorem ed195 : Tryz.prog.leadsTo Tryz.f195 = [302] := by kernel_rfl
theorem ip195 : inP Tryz.f195 = false := by kernel_rfl
theorem ed196 : Tryz.prog.leadsTo Tryz.f196 = [] := by kernel_rfl
theorem ip196 : inP Tryz.f196 = false := by kernel_rfl
theorem ed197 : Tryz.prog.leadsTo Tryz.f197 = [241, 303, 282] := by kernel_rfl
theorem ip197 : inP Tryz.f197 = false := by kernel_rfl
theorem ed198 : Tryz.prog.leadsTo Tryz.f198 = [51, 91] := by kernel_rfl
theorem ip198 : inP Tryz.f198 = false := by kernel_rfl
theorem ed199 : Tryz.prog.leadsTo Tryz.f199 = [52, 272, 273, 167, 274] := by kernel_rfl
theorem ip199 : inP Tryz.f199 = false := by kernel_rfl
theorem ed200 : Tryz.prog.leadsTo Tryz.f200 = [141, 198, 197, 175, 106] := by kernel_rfl
theorem ip200 : inP Tryz.f200 = false := by kernel_rfl
theorem ed201 : Tryz.prog.leadsTo Tryz.f201 = [105, 191, 91, 304, 305, 105, 188, 91, 107, 91, 106, 306, 107, 125] := by kernel_rfl
theorem ip201 : inP Tryz.f201 = false := by kernel_rfl
theorem ed202 : Tryz.prog.leadsTo Tryz.f202 = [176, 175, 54, 140, 307, 308, 106] := by kernel_rfl
theorem ip202 : inP Tryz.f202 = false := by kernel_rfl
theorem ed203 : Tryz.prog.leadsTo Tryz.f203 = [254] := by kernel_rfl
theorem ip203 : inP Tryz.f203 = false := by kernel_rfl
theorem ed204 : Tryz.prog.leadsTo Tryz.f204 = [64] := by kernel_rfl
theorem ip204 : inP Tryz.f204 = false := by kernel_rfl
theorem ed205 : Tryz.prog.leadsTo Tryz.f205 = [309, 309, 309, 309, 309, 309] := by kernel_rfl
theorem ip205 : inP Tryz.f205 = false := by kernel_rfl
theorem ed206 : Tryz.prog.leadsTo Tryz.f206 = [310, 311] := by kernel_rfl
theorem ip206 : inP Tryz.f206 = false := by kernel_rfl
theorem ed207 : Tryz.prog.leadsTo Tryz.f207 = [] := by kernel_rfl
theorem ip207 : inP Tryz.f207 = false := by kernel_rfl
theorem ed208 : Tryz.prog.leadsTo Tryz.f208 = [] := by kernel_rfl
theorem ip208 : inP Tryz.f208 = false := by kernel_rfl
theorem ed209 : Tryz.prog.leadsTo Tryz.f209 = [] := by kernel_rfl
theorem ip209 : inP Tryz.f209 = false := by kernel_rfl
theorem ed210 : Tryz.prog.leadsTo Tryz.f210 = [313, 312] := by kernel_rfl
theorem ip210 : inP Tryz.f210 = false := by kernel_rfl
theorem ed211 : Tryz.prog.leadsTo Tryz.f211 = [209] := by kernel_rfl
theorem ip211 : inP Tryz.f211 = false := by kernel_rfl
theorem ed212 : Tryz.prog.leadsTo Tryz.f212 = [314, 315] := by kernel_rfl
theorem ip212 : inP Tryz.f212 = false := by kernel_rfl
theorem ed213 : Tryz.prog.leadsTo Tryz.f213 = [] := by kernel_rfl
theorem ip213 : inP Tryz.f213 = false := by kernel_rfl
theorem ed214 : Tryz.prog.leadsTo Tryz.f214 = [216] := by kernel_rfl
theorem ip214 : inP Tryz.f214 = false := by kernel_rfl
theorem ed215 : Tryz.prog.leadsTo Tryz.f215 = [216] := by kernel_rfl
theorem ip215 : inP Tryz.f215 = false := by kernel_rfl
theorem ed216 : Tryz.prog.leadsTo Tryz.f216 = [] := by kernel_rfl
theorem ip216 : inP Tryz.f216 = true := by kernel_rfl
theorem ed217 : Tryz.prog.leadsTo Tryz.f217 = [] := by kernel_rfl
theorem ip217 : inP Tryz.f217 = false := by kernel_rfl
theorem ed218 : Tryz.prog.leadsTo Tryz.f218 = [217, 174, 316] := by kernel_rfl
theorem ip218 : inP Tryz.f218 = false := by kernel_rfl
theorem ed219 : Tryz.prog.leadsTo Tryz.f219 = [] := by kernel_rfl
theorem ip219 : inP Tryz.f219 = false := by kernel_rfl
end Go.Proofs.YtkbpafbbogjifaaGreat

/- A table of calls; no conditions. -/
namespace Go.Proofs.YtkbpafbbogjifaaGreat
open Go Go.Proofs.Rn
theorem ed220 : Tryz.prog.leadsTo Tryz.f220 = [] := by kernel_rfl
theorem ip220 : inP Tryz.f220 = false := by kernel_rfl
theorem ed221 : Tryz.prog.leadsTo Tryz.f221 = [] := by kernel_rfl
theorem ip221 : inP Tryz.f221 = false := by kernel_rfl
theorem ed222 : Tryz.prog.leadsTo Tryz.f222 = [] := by kernel_rfl
theorem ip222 : inP Tryz.f222 = false := by kernel_rfl
theorem ed223 : Tryz.prog.leadsTo Tryz.f223 = [318, 317, 319, 320] := by kernel_rfl
theorem ip223 : inP Tryz.f223 = false := by kernel_rfl
theorem ed224 : Tryz.prog.leadsTo Tryz.f224 = [] := by kernel_rfl
theorem ip224 : inP Tryz.f224 = false := by kernel_rfl
theorem ed225 : Tryz.prog.leadsTo Tryz.f225 = [227, 321, 321] := by kernel_rfl
theorem ip225 : inP Tryz.f225 = false := by kernel_rfl
theorem ed226 : Tryz.prog.leadsTo Tryz.f226 = [224, 224, 224, 224, 224, 224] := by kernel_rfl
theorem ip226 : inP Tryz.f226 = false := by kernel_rfl
theorem ed227 : Tryz.prog.leadsTo Tryz.f227 = [224, 224] := by kernel_rfl
theorem ip227 : inP Tryz.f227 = false := by kernel_rfl
theorem ed228 : Tryz.prog.leadsTo Tryz.f228 = [] := by kernel_rfl
theorem ip228 : inP Tryz.f228 = false := by kernel_rfl
theorem ed229 : Tryz.prog.leadsTo Tryz.f229 = [322] := by kernel_rfl
theorem ip229 : inP Tryz.f229 = false := by kernel_rfl
theorem ed230 : Tryz.prog.leadsTo Tryz.f230 = [232, 323, 324, 325] := by kernel_rfl
theorem ip230 : inP Tryz.f230 = false := by kernel_rfl
theorem ed231 : Tryz.prog.leadsTo Tryz.f231 = [322] := by kernel_rfl
theorem ip231 : inP Tryz.f231 = false := by kernel_rfl
theorem ed232 : Tryz.prog.leadsTo Tryz.f232 = [326, 149] := by kernel_rfl
theorem ip232 : inP Tryz.f232 = false := by kernel_rfl
theorem ed233 : Tryz.prog.leadsTo Tryz.f233 = [62, 63, 64, 64, 64, 64, 327, 72, 194] := by kernel_rfl
theorem ip233 : inP Tryz.f233 = false := by kernel_rfl
theorem ed234 : Tryz.prog.leadsTo Tryz.f234 = [] := by kernel_rfl
theorem ip234 : inP Tryz.f234 = false := by kernel_rfl
theorem ed235 : Tryz.prog.leadsTo Tryz.f235 = [149] := by kernel_rfl
theorem ip235 : inP Tryz.f235 = false := by kernel_rfl
theorem ed236 : Tryz.prog.leadsTo Tryz.f236 = [329, 328, 330, 331, 232, 332, 322] := by kernel_rfl
theorem ip236 : inP Tryz.f236 = false := by kernel_rfl
theorem ed237 : Tryz.prog.leadsTo Tryz.f237 = [333, 334, 232, 334, 324, 334, 325] := by kernel_rfl
theorem ip237 : inP Tryz.f237 = false := by kernel_rfl
theorem ed238 : Tryz.prog.leadsTo Tryz.f238 = [] := by kernel_rfl
theorem ip238 : inP Tryz.f238 = false := by kernel_rfl
theorem ed239 : Tryz.prog.leadsTo Tryz.f239 = [335, 149] := by kernel_rfl
theorem ip239 : inP Tryz.f239 = false := by kernel_rfl
theorem ed240 : Tryz.prog.leadsTo Tryz.f240 = [333, 334, 322, 336, 337] := by kernel_rfl
theorem ip240 : inP Tryz.f240 = false := by kernel_rfl
theorem ed241 : Tryz.prog.leadsTo Tryz.f241 = [] := by kernel_rfl
theorem ip241 : inP Tryz.f241 = false := by kernel_rfl
theorem ed242 : Tryz.prog.leadsTo Tryz.f242 = [142, 138] := by kernel_rfl
theorem ip242 : inP Tryz.f242 = false := by kernel_rfl
theorem ed243 : Tryz.prog.leadsTo Tryz.f243 = [338] := by kernel_rfl
theorem ip243 : inP Tryz.f243 = false := by kernel_rfl
theorem ed244 : Tryz.prog.leadsTo Tryz.f244 = [63, 64, 72, 228] := by kernel_rfl
theorem ip244 : inP Tryz.f244 = false := by kernel_rfl
theorem ed245 : Tryz.prog.leadsTo Tryz.f245 = [339] := by kernel_rfl
theorem ip245 : inP Tryz.f245 = false := by kernel_rfl
theorem ed246 : Tryz.prog.leadsTo Tryz.f246 = [] := by kernel_rfl
theorem ip246 : inP Tryz.f246 = false := by kernel_rfl
theorem ed247 : Tryz.prog.leadsTo Tryz.f247 = [238] := by kernel_rfl
theorem ip247 : inP Tryz.f247 = false := by kernel_rfl
theorem ed248 : Tryz.prog.leadsTo Tryz.f248 = [] := by kernel_rfl
theorem ip248 : inP Tryz.f248 = false := by kernel_rfl
theorem ed249 : Tryz.prog.leadsTo Tryz.f249 = [340, 149] := by kernel_rfl
theorem ip249 : inP Tryz.f249 = false := by kernel_rfl
theorem ed250 : Tryz.prog.leadsTo Tryz.f250 = [] := by kernel_rfl
theorem ip250 : inP Tryz.f250 = false := by kernel_rfl
theorem ed251 : Tryz.prog.leadsTo Tryz.f251 = [341, 341] := by kernel_rfl
theorem ip251 : inP Tryz.f251 = false := by kernel_rfl
theorem ed252 : Tryz.prog.leadsTo Tryz.f252 = [] := by kernel_rfl
theorem ip252 : inP Tryz.f252 = false := by kernel_rfl
theorem ed253 : Tryz.prog.leadsTo Tryz.f253 = [254] := by kernel_rfl
theorem ip253 : inP Tryz.f253 = false := by kernel_rfl
theorem ed254 : Tryz.prog.leadsTo Tryz.f254 = [342, 343] := by kernel_rfl
theorem ip254 : inP Tryz.f254 = false := by kernel_rfl
theorem ed255 : Tryz.prog.leadsTo Tryz.f255 = [344] := by kernel_rfl
theorem ip255 : inP Tryz.f255 = false := by kernel_rfl
theorem ed256 : Tryz.prog.leadsTo Tryz.f256 = [] := by kernel_rfl
theorem ip256 : inP Tryz.f256 = false := by kernel_rfl
theorem ed257 : Tryz.prog.leadsTo Tryz.f257 = [339] := by kernel_rfl
theorem ip257 : inP Tryz.f257 = false := by kernel_rfl
theorem ed258 : Tryz.prog.leadsTo Tryz.f258 = [] := by kernel_rfl
theorem ip258 : inP Tryz.f258 = false := by kernel_rfl
theorem ed259 : Tryz.prog.leadsTo Tryz.f259 = [345] := by kernel_rfl
theorem ip259 : inP Tryz.f259 = false := by kernel_rfl
theorem ed260 : Tryz.prog.leadsTo Tryz.f260 = [] := by kernel_rfl
theorem ip260 : inP Tryz.f260 = false := by kernel_rfl
theorem ed261 : Tryz.prog.leadsTo Tryz.f261 = [346] := by kernel_rfl
theorem ip261 : inP Tryz.f261 = false := by kernel_rfl
theorem ed262 : Tryz.prog.leadsTo Tryz.f262 = [64] := by kernel_rfl
theorem ip262 : inP Tryz.f262 = false := by kernel_rfl
theorem ed263 : Tryz.prog.leadsTo Tryz.f263 = [347, 156] := by kernel_rfl
theorem ip263 : inP Tryz.f263 = false := by kernel_rfl
theorem ed264 : Tryz.prog.leadsTo Tryz.f264 = [221] := by kernel_rfl
theorem ip264 : inP Tryz.f264 = false := by kernel_rfl
theorem ed265 : Tryz.prog.leadsTo Tryz.f265 = [] := by kernel_rfl
theorem ip265 : inP Tryz.f265 = false := by kernel_rfl
theorem ed266 : Tryz.prog.leadsTo Tryz.f266 = [280, 245, 348, 349, 350] := by kernel_rfl
theorem ip266 : inP Tryz.f266 = false := by kernel_rfl
theorem ed267 : Tryz.prog.leadsTo Tryz.f267 = [351, 352] := by kernel_rfl
theorem ip267 : inP Tryz.f267 = false := by kernel_rfl
theorem ed268 : Tryz.prog.leadsTo Tryz.f268 = [353, 354, 355, 356, 357, 359, 358] := by kernel_rfl
theorem ip268 : inP Tryz.f268 = false := by kernel_rfl
theorem ed269 : Tryz.prog.leadsTo Tryz.f269 = [217, 348] := by kernel_rfl
theorem ip269 : inP Tryz.f269 = false := by kernel_rfl
theorem ed270 : Tryz.prog.leadsTo Tryz.f270 = [360, 267, 361] := by kernel_rfl
theorem ip270 : inP Tryz.f270 = false := by kernel_rfl
theorem ed271 : Tryz.prog.leadsTo Tryz.f271 = [133, 49] := by kernel_rfl
theorem ip271 : inP Tryz.f271 = false := by kernel_rfl
theorem ed272 : Tryz.prog.leadsTo Tryz.f272 = [362, 104] := by kernel_rfl
theorem ip272 : inP Tryz.f272 = false := by kernel_rfl
theorem ed273 : Tryz.prog.leadsTo Tryz.f273 = [362, 275, 363, 364] := by kernel_rfl
theorem ip273 : inP Tryz.f273 = false := by kernel_rfl
theorem ed274 : Tryz.prog.leadsTo Tryz.f274 = [101, 91, 365, 366, 187, 79, 188] := by kernel_rfl
theorem ip274 : inP Tryz.f274 = false := by kernel_rfl
theorem ed275 : Tryz.prog.leadsTo Tryz.f275 = [133] := by kernel_rfl
theorem ip275 : inP Tryz.f275 = false := by kernel_rfl
theorem ed276 : Tryz.prog.leadsTo Tryz.f276 = [] := by kernel_rfl
theorem ip276 : inP Tryz.f276 = false := by kernel_rfl
theorem ed277 : Tryz.prog.leadsTo Tryz.f277 = [] := by kernel_rfl
theorem ip277 : inP Tryz.f277 = false := by kernel_rfl
theorem ed278 : Tryz.prog.leadsTo Tryz.f278 = [221, 265] := by kernel_rfl
theorem ip278 : inP Tryz.f278 = false := by kernel_rfl
theorem ed279 : Tryz.prog.leadsTo Tryz.f279 = [152, 86, 277, 153, 86, 277, 367, 86, 277, 368, 369, 86, 370, 371, 372, 371, 373] := by kernel_rfl
theorem ip279 : inP Tryz.f279 = false := by kernel_rfl
theorem ed280 : Tryz.prog.leadsTo Tryz.f280 = [] := by kernel_rfl
theorem ip280 : inP Tryz.f280 = false := by kernel_rfl
theorem ed281 : Tryz.prog.leadsTo Tryz.f281 = [234, 374, 231, 375, 377, 378, 235] := by kernel_rfl
theorem ip281 : inP Tryz.f281 = false := by kernel_rfl
theorem ed282 : Tryz.prog.leadsTo Tryz.f282 = [] := by kernel_rfl
theorem ip282 : inP Tryz.f282 = false := by kernel_rfl
theorem ed283 : Tryz.prog.leadsTo Tryz.f283 = [238, 179, 334, 322, 337, 335] := by kernel_rfl
theorem ip283 : inP Tryz.f283 = false := by kernel_rfl
theorem ed284 : Tryz.prog.leadsTo Tryz.f284 = [126, 127, 380, 218, 381, 131] := by kernel_rfl
theorem ip284 : inP Tryz.f284 = false := by kernel_rfl
theorem ed285 : Tryz.prog.leadsTo Tryz.f285 = [213, 118, 382, 312, 118, 119, 118, 383, 312, 118, 120] := by kernel_rfl
theorem ip285 : inP Tryz.f285 = false := by kernel_rfl
theorem ed286 : Tryz.prog.leadsTo Tryz.f286 = [118] := by kernel_rfl
theorem ip286 : inP Tryz.f286 = false := by kernel_rfl
theorem ed287 : Tryz.prog.leadsTo Tryz.f287 = [121, 118, 118] := by kernel_rfl
theorem ip287 : inP Tryz.f287 = false := by kernel_rfl
theorem ed288 : Tryz.prog.leadsTo Tryz.f288 = [118, 118] := by kernel_rfl
theorem ip288 : inP Tryz.f288 = false := by kernel_rfl
theorem ed289 : Tryz.prog.leadsTo Tryz.f289 = [221, 118, 385, 384, 118, 386] := by kernel_rfl
theorem ip289 : inP Tryz.f289 = false := by kernel_rfl
theorem ed290 : Tryz.prog.leadsTo Tryz.f290 = [387] := by kernel_rfl
theorem ip290 : inP Tryz.f290 = false := by kernel_rfl
theorem ed291 : Tryz.prog.leadsTo Tryz.f291 = [] := by kernel_rfl
theorem ip291 : inP Tryz.f291 = false := by kernel_rfl
theorem ed292 : Tryz.prog.leadsTo Tryz.f292 = [293] := by kernel_rfl
theorem ip292 : inP Tryz.f292 = false := by kernel_rfl
theorem ed293 : Tryz.prog.leadsTo Tryz.f293 = [] := by kernel_rfl
theorem ip293 : inP Tryz.f293 = false := by kernel_rfl
theorem ed294 : Tryz.prog.leadsTo Tryz.f294 = [] := by kernel_rfl
theorem ip294 : inP Tryz.f294 = false := by kernel_rfl
theorem ed295 : Tryz.prog.leadsTo Tryz.f295 = [] := by kernel_rfl
theorem ip295 : inP Tryz.f295 = false := by kernel_rfl
theorem ed296 : Tryz.prog.leadsTo Tryz.f296 = [] := by kernel_rfl
theorem ip296 : inP Tryz.f296 = false := by kernel_rfl
theorem ed297 : Tryz.prog.leadsTo Tryz.f297 = [241, 388, 389, 282] := by kernel_rfl
theorem ip297 : inP Tryz.f297 = false := by kernel_rfl
theorem ed298 : Tryz.prog.leadsTo Tryz.f298 = [314, 390] := by kernel_rfl
theorem ip298 : inP Tryz.f298 = false := by kernel_rfl
theorem ed299 : Tryz.prog.leadsTo Tryz.f299 = [] := by kernel_rfl
theorem ip299 : inP Tryz.f299 = false := by kernel_rfl
theorem ed300 : Tryz.prog.leadsTo Tryz.f300 = [] := by kernel_rfl
theorem ip300 : inP Tryz.f300 = false := by kernel_rfl
theorem ed301 : Tryz.prog.leadsTo Tryz.f301 = [] := by kernel_rfl
theorem ip301 : inP Tryz.f301 = false := by kernel_rfl
theorem ed302 : Tryz.prog.leadsTo Tryz.f302 = [182, 391] := by kernel_rfl
theorem ip302 : inP Tryz.f302 = false := by kernel_rfl
theorem ed303 : Tryz.prog.leadsTo Tryz.f303 = [338, 392, 393, 395, 394] := by kernel_rfl
theorem ip303 : inP Tryz.f303 = false := by kernel_rfl
theorem ed304 : Tryz.prog.leadsTo Tryz.f304 = [190] := by kernel_rfl
theorem ip304 : inP Tryz.f304 = false := by kernel_rfl
theorem ed305 : Tryz.prog.leadsTo Tryz.f305 = [190] := by kernel_rfl
theorem ip305 : inP Tryz.f305 = false := by kernel_rfl
theorem ed306 : Tryz.prog.leadsTo Tryz.f306 = [190] := by kernel_rfl
theorem ip306 : inP Tryz.f306 = false := by kernel_rfl
theorem ed307 : Tryz.prog.leadsTo Tryz.f307 = [91, 140] := by kernel_rfl
theorem ip307 : inP Tryz.f307 = false := by kernel_rfl
theorem ed308 : Tryz.prog.leadsTo Tryz.f308 = [140, 396, 175, 297, 175, 54] := by kernel_rfl
theorem ip308 : inP Tryz.f308 = false := by kernel_rfl
theorem ed309 : Tryz.prog.leadsTo Tryz.f309 = [] := by kernel_rfl
theorem ip309 : inP Tryz.f309 = false := by kernel_rfl
theorem ed310 : Tryz.prog.leadsTo Tryz.f310 = [397, 397] := by kernel_rfl
theorem ip310 : inP Tryz.f310 = false := by kernel_rfl
theorem ed311 : Tryz.prog.leadsTo Tryz.f311 = [398] := by kernel_rfl
theorem ip311 : inP Tryz.f311 = false := by kernel_rfl
theorem ed312 : Tryz.prog.leadsTo Tryz.f312 = [399, 400] := by kernel_rfl
theorem ip312 : inP Tryz.f312 = false := by kernel_rfl
theorem ed313 : Tryz.prog.leadsTo Tryz.f313 = [401] := by kernel_rfl
theorem ip313 : inP Tryz.f313 = false := by kernel_rfl
theorem ed314 : Tryz.prog.leadsTo Tryz.f314 = [133, 105, 402, 275] := by kernel_rfl
theorem ip314 : inP Tryz.f314 = false := by kernel_rfl
theorem ed315 : Tryz.prog.leadsTo Tryz.f315 = [] := by kernel_rfl
theorem ip315 : inP Tryz.f315 = false := by kernel_rfl
theorem ed316 : Tryz.prog.leadsTo Tryz.f316 = [280, 403, 404, 405] := by kernel_rfl
theorem ip316 : inP Tryz.f316 = false := by kernel_rfl
theorem ed317 : Tryz.prog.leadsTo Tryz.f317 = [406, 407] := by kernel_rfl
theorem ip317 : inP Tryz.f317 = false := by kernel_rfl
theorem ed318 : Tryz.prog.leadsTo Tryz.f318 = [] := by kernel_rfl
theorem ip318 : inP Tryz.f318 = false := by kernel_rfl
theorem ed319 : Tryz.prog.leadsTo Tryz.f319 = [408, 409] := by kernel_rfl
theorem ip319 : inP Tryz.f319 = false := by kernel_rfl
theorem ed320 : Tryz.prog.leadsTo Tryz.f320 = [] := by kernel_rfl
theorem ip320 : inP Tryz.f320 = false := by kernel_rfl
theorem ed321 : Tryz.prog.leadsTo Tryz.f321 = [224, 224, 224] := by kernel_rfl
theorem ip321 : inP Tryz.f321 = false := by kernel_rfl
theorem ed322 : Tryz.prog.leadsTo Tryz.f322 = [326, 410] := by kernel_rfl
theorem ip322 : inP Tryz.f322 = false := by kernel_rfl
theorem ed323 : Tryz.prog.leadsTo Tryz.f323 = [411, 63, 64, 64, 72] := by kernel_rfl
theorem ip323 : inP Tryz.f323 = false := by kernel_rfl
theorem ed324 : Tryz.prog.leadsTo Tryz.f324 = [326, 410] := by kernel_rfl
theorem ip324 : inP Tryz.f324 = false := by kernel_rfl
theorem ed325 : Tryz.prog.leadsTo Tryz.f325 = [326, 410] := by kernel_rfl
theorem ip325 : inP Tryz.f325 = false := by kernel_rfl
theorem ed326 : Tryz.prog.leadsTo Tryz.f326 = [28] := by kernel_rfl
theorem ip326 : inP Tryz.f326 = false := by kernel_rfl
theorem ed327 : Tryz.prog.leadsTo Tryz.f327 = [154, 64, 250, 154, 412] := by kernel_rfl
theorem ip327 : inP Tryz.f327 = false := by kernel_rfl
theorem ed328 : Tryz.prog.leadsTo Tryz.f328 = [413] := by kernel_rfl
theorem ip328 : inP Tryz.f328 = false := by kernel_rfl
theorem ed329 : Tryz.prog.leadsTo Tryz.f329 = [74, 415, 414] := by kernel_rfl
theorem ip329 : inP Tryz.f329 = false := by kernel_rfl
end Go.Proofs.YtkbpafbbogjifaaGreat

/- A table of calls; no conditions. -/
namespace Go.Proofs.YtkbpafbbogjifaaGreat
open Go Go.Proofs.Rn
theorem ed330 : Tryz.prog.leadsTo Tryz.f330 = [331] := by kernel_rfl
theorem ip330 : inP Tryz.f330 = false := by kernel_rfl
theorem ed331 : Tryz.prog.leadsTo Tryz.f331 = [416] := by kernel_rfl
theorem ip331 : inP Tryz.f331 = false := by kernel_rfl
theorem ed332 : Tryz.prog.leadsTo Tryz.f332 = [417, 179] := by kernel_rfl
theorem ip332 : inP Tryz.f332 = false := by kernel_rfl
theorem ed333 : Tryz.prog.leadsTo Tryz.f333 = [] := by kernel_rfl
theorem ip333 : inP Tryz.f333 = false := by kernel_rfl
theorem ed334 : Tryz.prog.leadsTo Tryz.f334 = [418] := by kernel_rfl
theorem ip334 : inP Tryz.f334 = false := by kernel_rfl
theorem ed335 : Tryz.prog.leadsTo Tryz.f335 = [] := by kernel_rfl
theorem ip335 : inP Tryz.f335 = false := by kernel_rfl
theorem ed336 : Tryz.prog.leadsTo Tryz.f336 = [] := by kernel_rfl
theorem ip336 : inP Tryz.f336 = false := by kernel_rfl
theorem ed337 : Tryz.prog.leadsTo Tryz.f337 = [] := by kernel_rfl
theorem ip337 : inP Tryz.f337 = false := by kernel_rfl
theorem ed338 : Tryz.prog.leadsTo Tryz.f338 = [] := by kernel_rfl
theorem ip338 : inP Tryz.f338 = false := by kernel_rfl
theorem ed339 : Tryz.prog.leadsTo Tryz.f339 = [419] := by kernel_rfl
theorem ip339 : inP Tryz.f339 = false := by kernel_rfl
theorem ed340 : Tryz.prog.leadsTo Tryz.f340 = [387] := by kernel_rfl
theorem ip340 : inP Tryz.f340 = false := by kernel_rfl
theorem ed341 : Tryz.prog.leadsTo Tryz.f341 = [] := by kernel_rfl
theorem ip341 : inP Tryz.f341 = false := by kernel_rfl
theorem ed342 : Tryz.prog.leadsTo Tryz.f342 = [420, 341, 422, 421] := by kernel_rfl
theorem ip342 : inP Tryz.f342 = false := by kernel_rfl
theorem ed343 : Tryz.prog.leadsTo Tryz.f343 = [420, 341] := by kernel_rfl
theorem ip343 : inP Tryz.f343 = false := by kernel_rfl
theorem ed344 : Tryz.prog.leadsTo Tryz.f344 = [] := by kernel_rfl
theorem ip344 : inP Tryz.f344 = false := by kernel_rfl
theorem ed345 : Tryz.prog.leadsTo Tryz.f345 = [424, 425, 423] := by kernel_rfl
theorem ip345 : inP Tryz.f345 = false := by kernel_rfl
theorem ed346 : Tryz.prog.leadsTo Tryz.f346 = [] := by kernel_rfl
theorem ip346 : inP Tryz.f346 = false := by kernel_rfl
theorem ed347 : Tryz.prog.leadsTo Tryz.f347 = [] := by kernel_rfl
theorem ip347 : inP Tryz.f347 = false := by kernel_rfl
theorem ed348 : Tryz.prog.leadsTo Tryz.f348 = [280, 426] := by kernel_rfl
theorem ip348 : inP Tryz.f348 = false := by kernel_rfl
theorem ed349 : Tryz.prog.leadsTo Tryz.f349 = [427] := by kernel_rfl
theorem ip349 : inP Tryz.f349 = false := by kernel_rfl
theorem ed350 : Tryz.prog.leadsTo Tryz.f350 = [428, 429] := by kernel_rfl
theorem ip350 : inP Tryz.f350 = false := by kernel_rfl
theorem ed351 : Tryz.prog.leadsTo Tryz.f351 = [213, 255] := by kernel_rfl
theorem ip351 : inP Tryz.f351 = false := by kernel_rfl
theorem ed352 : Tryz.prog.leadsTo Tryz.f352 = [351, 430] := by kernel_rfl
theorem ip352 : inP Tryz.f352 = false := by kernel_rfl
theorem ed353 : Tryz.prog.leadsTo Tryz.f353 = [] := by kernel_rfl
theorem ip353 : inP Tryz.f353 = false := by kernel_rfl
theorem ed354 : Tryz.prog.leadsTo Tryz.f354 = [] := by kernel_rfl
theorem ip354 : inP Tryz.f354 = false := by kernel_rfl
theorem ed355 : Tryz.prog.leadsTo Tryz.f355 = [431, 432] := by kernel_rfl
theorem ip355 : inP Tryz.f355 = false := by kernel_rfl
theorem ed356 : Tryz.prog.leadsTo Tryz.f356 = [433] := by kernel_rfl
theorem ip356 : inP Tryz.f356 = false := by kernel_rfl
theorem ed357 : Tryz.prog.leadsTo Tryz.f357 = [435] := by kernel_rfl
theorem ip357 : inP Tryz.f357 = false := by kernel_rfl
theorem ed358 : Tryz.prog.leadsTo Tryz.f358 = [355, 431, 432, 436, 432] := by kernel_rfl
theorem ip358 : inP Tryz.f358 = false := by kernel_rfl
theorem ed359 : Tryz.prog.leadsTo Tryz.f359 = [431, 437, 355, 432] := by kernel_rfl
theorem ip359 : inP Tryz.f359 = false := by kernel_rfl
theorem ed360 : Tryz.prog.leadsTo Tryz.f360 = [219, 438, 293, 439] := by kernel_rfl
theorem ip360 : inP Tryz.f360 = false := by kernel_rfl
theorem ed361 : Tryz.prog.leadsTo Tryz.f361 = [] := by kernel_rfl
theorem ip361 : inP Tryz.f361 = false := by kernel_rfl
theorem ed362 : Tryz.prog.leadsTo Tryz.f362 = [] := by kernel_rfl
theorem ip362 : inP Tryz.f362 = false := by kernel_rfl
theorem ed363 : Tryz.prog.leadsTo Tryz.f363 = [440] := by kernel_rfl
theorem ip363 : inP Tryz.f363 = false := by kernel_rfl
theorem ed364 : Tryz.prog.leadsTo Tryz.f364 = [440] := by kernel_rfl
theorem ip364 : inP Tryz.f364 = false := by kernel_rfl
theorem ed365 : Tryz.prog.leadsTo Tryz.f365 = [100] := by kernel_rfl
theorem ip365 : inP Tryz.f365 = false := by kernel_rfl
theorem ed366 : Tryz.prog.leadsTo Tryz.f366 = [] := by kernel_rfl
theorem ip366 : inP Tryz.f366 = false := by kernel_rfl
theorem ed367 : Tryz.prog.leadsTo Tryz.f367 = [] := by kernel_rfl
theorem ip367 : inP Tryz.f367 = false := by kernel_rfl
theorem ed368 : Tryz.prog.leadsTo Tryz.f368 = [441, 441, 267, 441, 86, 442, 165, 441, 443, 441] := by kernel_rfl
theorem ip368 : inP Tryz.f368 = false := by kernel_rfl
theorem ed369 : Tryz.prog.leadsTo Tryz.f369 = [444, 86, 445, 446, 447] := by kernel_rfl
theorem ip369 : inP Tryz.f369 = false := by kernel_rfl
theorem ed370 : Tryz.prog.leadsTo Tryz.f370 = [448, 293] := by kernel_rfl
theorem ip370 : inP Tryz.f370 = false := by kernel_rfl
theorem ed371 : Tryz.prog.leadsTo Tryz.f371 = [86, 277] := by kernel_rfl
theorem ip371 : inP Tryz.f371 = false := by kernel_rfl
theorem ed372 : Tryz.prog.leadsTo Tryz.f372 = [448, 293] := by kernel_rfl
theorem ip372 : inP Tryz.f372 = false := by kernel_rfl
theorem ed373 : Tryz.prog.leadsTo Tryz.f373 = [441, 267, 86, 449, 450, 451, 452, 165, 441, 443, 441] := by kernel_rfl
theorem ip373 : inP Tryz.f373 = false := by kernel_rfl
theorem ed374 : Tryz.prog.leadsTo Tryz.f374 = [194, 118, 118, 453, 122, 178] := by kernel_rfl
theorem ip374 : inP Tryz.f374 = false := by kernel_rfl
theorem ed375 : Tryz.prog.leadsTo Tryz.f375 = [376] := by kernel_rfl
theorem ip375 : inP Tryz.f375 = false := by kernel_rfl
theorem ed376 : Tryz.prog.leadsTo Tryz.f376 = [326, 454, 455, 410] := by kernel_rfl
theorem ip376 : inP Tryz.f376 = false := by kernel_rfl
theorem ed377 : Tryz.prog.leadsTo Tryz.f377 = [325] := by kernel_rfl
theorem ip377 : inP Tryz.f377 = false := by kernel_rfl
theorem ed378 : Tryz.prog.leadsTo Tryz.f378 = [379] := by kernel_rfl
theorem ip378 : inP Tryz.f378 = false := by kernel_rfl
theorem ed379 : Tryz.prog.leadsTo Tryz.f379 = [326, 454, 410] := by kernel_rfl
theorem ip379 : inP Tryz.f379 = false := by kernel_rfl
theorem ed380 : Tryz.prog.leadsTo Tryz.f380 = [456, 384] := by kernel_rfl
theorem ip380 : inP Tryz.f380 = false := by kernel_rfl
theorem ed381 : Tryz.prog.leadsTo Tryz.f381 = [219, 220] := by kernel_rfl
theorem ip381 : inP Tryz.f381 = false := by kernel_rfl
theorem ed382 : Tryz.prog.leadsTo Tryz.f382 = [457] := by kernel_rfl
theorem ip382 : inP Tryz.f382 = false := by kernel_rfl
theorem ed383 : Tryz.prog.leadsTo Tryz.f383 = [458] := by kernel_rfl
theorem ip383 : inP Tryz.f383 = false := by kernel_rfl
theorem ed384 : Tryz.prog.leadsTo Tryz.f384 = [459, 402] := by kernel_rfl
theorem ip384 : inP Tryz.f384 = false := by kernel_rfl
theorem ed385 : Tryz.prog.leadsTo Tryz.f385 = [460] := by kernel_rfl
theorem ip385 : inP Tryz.f385 = false := by kernel_rfl
theorem ed386 : Tryz.prog.leadsTo Tryz.f386 = [118, 121, 347, 461, 347, 286, 118, 118, 118] := by kernel_rfl
theorem ip386 : inP Tryz.f386 = false := by kernel_rfl
theorem ed387 : Tryz.prog.leadsTo Tryz.f387 = [462] := by kernel_rfl
theorem ip387 : inP Tryz.f387 = false := by kernel_rfl
theorem ed388 : Tryz.prog.leadsTo Tryz.f388 = [238, 179, 463, 179, 333, 389, 464, 334, 376, 333, 239] := by kernel_rfl
theorem ip388 : inP Tryz.f388 = false := by kernel_rfl
theorem ed389 : Tryz.prog.leadsTo Tryz.f389 = [238, 333, 334, 325] := by kernel_rfl
theorem ip389 : inP Tryz.f389 = false := by kernel_rfl
theorem ed390 : Tryz.prog.leadsTo Tryz.f390 = [] := by kernel_rfl
theorem ip390 : inP Tryz.f390 = false := by kernel_rfl
theorem ed391 : Tryz.prog.leadsTo Tryz.f391 = [] := by kernel_rfl
theorem ip391 : inP Tryz.f391 = false := by kernel_rfl
theorem ed392 : Tryz.prog.leadsTo Tryz.f392 = [] := by kernel_rfl
theorem ip392 : inP Tryz.f392 = false := by kernel_rfl
theorem ed393 : Tryz.prog.leadsTo Tryz.f393 = [392, 392] := by kernel_rfl
theorem ip393 : inP Tryz.f393 = false := by kernel_rfl
theorem ed394 : Tryz.prog.leadsTo Tryz.f394 = [232, 229, 376, 325, 379] := by kernel_rfl
theorem ip394 : inP Tryz.f394 = false := by kernel_rfl
theorem ed395 : Tryz.prog.leadsTo Tryz.f395 = [118, 122, 178] := by kernel_rfl
theorem ip395 : inP Tryz.f395 = false := by kernel_rfl
theorem ed396 : Tryz.prog.leadsTo Tryz.f396 = [241, 50, 465, 282] := by kernel_rfl
theorem ip396 : inP Tryz.f396 = false := by kernel_rfl
theorem ed397 : Tryz.prog.leadsTo Tryz.f397 = [466, 467] := by kernel_rfl
theorem ip397 : inP Tryz.f397 = false := by kernel_rfl
theorem ed398 : Tryz.prog.leadsTo Tryz.f398 = [] := by kernel_rfl
theorem ip398 : inP Tryz.f398 = false := by kernel_rfl
theorem ed399 : Tryz.prog.leadsTo Tryz.f399 = [468] := by kernel_rfl
theorem ip399 : inP Tryz.f399 = false := by kernel_rfl
theorem ed400 : Tryz.prog.leadsTo Tryz.f400 = [470, 469] := by kernel_rfl
theorem ip400 : inP Tryz.f400 = false := by kernel_rfl
theorem ed401 : Tryz.prog.leadsTo Tryz.f401 = [] := by kernel_rfl
theorem ip401 : inP Tryz.f401 = false := by kernel_rfl
theorem ed402 : Tryz.prog.leadsTo Tryz.f402 = [470, 471] := by kernel_rfl
theorem ip402 : inP Tryz.f402 = false := by kernel_rfl
theorem ed403 : Tryz.prog.leadsTo Tryz.f403 = [472] := by kernel_rfl
theorem ip403 : inP Tryz.f403 = false := by kernel_rfl
theorem ed404 : Tryz.prog.leadsTo Tryz.f404 = [472, 473, 405] := by kernel_rfl
theorem ip404 : inP Tryz.f404 = false := by kernel_rfl
theorem ed405 : Tryz.prog.leadsTo Tryz.f405 = [474, 345] := by kernel_rfl
theorem ip405 : inP Tryz.f405 = false := by kernel_rfl
theorem ed406 : Tryz.prog.leadsTo Tryz.f406 = [475, 475] := by kernel_rfl
theorem ip406 : inP Tryz.f406 = false := by kernel_rfl
theorem ed407 : Tryz.prog.leadsTo Tryz.f407 = [] := by kernel_rfl
theorem ip407 : inP Tryz.f407 = false := by kernel_rfl
theorem ed408 : Tryz.prog.leadsTo Tryz.f408 = [409] := by kernel_rfl
theorem ip408 : inP Tryz.f408 = false := by kernel_rfl
theorem ed409 : Tryz.prog.leadsTo Tryz.f409 = [476] := by kernel_rfl
theorem ip409 : inP Tryz.f409 = false := by kernel_rfl
theorem ed410 : Tryz.prog.leadsTo Tryz.f410 = [477] := by kernel_rfl
theorem ip410 : inP Tryz.f410 = false := by kernel_rfl
theorem ed411 : Tryz.prog.leadsTo Tryz.f411 = [478] := by kernel_rfl
theorem ip411 : inP Tryz.f411 = false := by kernel_rfl
theorem ed412 : Tryz.prog.leadsTo Tryz.f412 = [250, 154, 149] := by kernel_rfl
theorem ip412 : inP Tryz.f412 = false := by kernel_rfl
theorem ed413 : Tryz.prog.leadsTo Tryz.f413 = [] := by kernel_rfl
theorem ip413 : inP Tryz.f413 = false := by kernel_rfl
theorem ed414 : Tryz.prog.leadsTo Tryz.f414 = [479, 480] := by kernel_rfl
theorem ip414 : inP Tryz.f414 = false := by kernel_rfl
theorem ed415 : Tryz.prog.leadsTo Tryz.f415 = [481] := by kernel_rfl
theorem ip415 : inP Tryz.f415 = false := by kernel_rfl
theorem ed416 : Tryz.prog.leadsTo Tryz.f416 = [482] := by kernel_rfl
theorem ip416 : inP Tryz.f416 = false := by kernel_rfl
theorem ed417 : Tryz.prog.leadsTo Tryz.f417 = [411, 483, 484] := by kernel_rfl
theorem ip417 : inP Tryz.f417 = false := by kernel_rfl
theorem ed418 : Tryz.prog.leadsTo Tryz.f418 = [] := by kernel_rfl
theorem ip418 : inP Tryz.f418 = false := by kernel_rfl
theorem ed419 : Tryz.prog.leadsTo Tryz.f419 = [] := by kernel_rfl
theorem ip419 : inP Tryz.f419 = false := by kernel_rfl
theorem ed420 : Tryz.prog.leadsTo Tryz.f420 = [485] := by kernel_rfl
theorem ip420 : inP Tryz.f420 = false := by kernel_rfl
theorem ed421 : Tryz.prog.leadsTo Tryz.f421 = [] := by kernel_rfl
theorem ip421 : inP Tryz.f421 = false := by kernel_rfl
theorem ed422 : Tryz.prog.leadsTo Tryz.f422 = [] := by kernel_rfl
theorem ip422 : inP Tryz.f422 = false := by kernel_rfl
theorem ed423 : Tryz.prog.leadsTo Tryz.f423 = [] := by kernel_rfl
theorem ip423 : inP Tryz.f423 = false := by kernel_rfl
theorem ed424 : Tryz.prog.leadsTo Tryz.f424 = [486, 486] := by kernel_rfl
theorem ip424 : inP Tryz.f424 = false := by kernel_rfl
theorem ed425 : Tryz.prog.leadsTo Tryz.f425 = [487, 487] := by kernel_rfl
theorem ip425 : inP Tryz.f425 = false := by kernel_rfl
theorem ed426 : Tryz.prog.leadsTo Tryz.f426 = [488] := by kernel_rfl
theorem ip426 : inP Tryz.f426 = false := by kernel_rfl
theorem ed427 : Tryz.prog.leadsTo Tryz.f427 = [280, 489] := by kernel_rfl
theorem ip427 : inP Tryz.f427 = false := by kernel_rfl
theorem ed428 : Tryz.prog.leadsTo Tryz.f428 = [] := by kernel_rfl
theorem ip428 : inP Tryz.f428 = false := by kernel_rfl
theorem ed429 : Tryz.prog.leadsTo Tryz.f429 = [472] := by kernel_rfl
theorem ip429 : inP Tryz.f429 = false := by kernel_rfl
theorem ed430 : Tryz.prog.leadsTo Tryz.f430 = [490, 492, 491] := by kernel_rfl
theorem ip430 : inP Tryz.f430 = false := by kernel_rfl
theorem ed431 : Tryz.prog.leadsTo Tryz.f431 = [] := by kernel_rfl
theorem ip431 : inP Tryz.f431 = false := by kernel_rfl
theorem ed432 : Tryz.prog.leadsTo Tryz.f432 = [490, 493, 491] := by kernel_rfl
theorem ip432 : inP Tryz.f432 = false := by kernel_rfl
theorem ed433 : Tryz.prog.leadsTo Tryz.f433 = [434] := by kernel_rfl
theorem ip433 : inP Tryz.f433 = false := by kernel_rfl
theorem ed434 : Tryz.prog.leadsTo Tryz.f434 = [494, 496, 495] := by kernel_rfl
theorem ip434 : inP Tryz.f434 = false := by kernel_rfl
theorem ed435 : Tryz.prog.leadsTo Tryz.f435 = [359] := by kernel_rfl
theorem ip435 : inP Tryz.f435 = false := by kernel_rfl
theorem ed436 : Tryz.prog.leadsTo Tryz.f436 = [497, 498, 498] := by kernel_rfl
theorem ip436 : inP Tryz.f436 = false := by kernel_rfl
theorem ed437 : Tryz.prog.leadsTo Tryz.f437 = [499, 500] := by kernel_rfl
theorem ip437 : inP Tryz.f437 = false := by kernel_rfl
theorem ed438 : Tryz.prog.leadsTo Tryz.f438 = [] := by kernel_rfl
theorem ip438 : inP Tryz.f438 = false := by kernel_rfl
theorem ed439 : Tryz.prog.leadsTo Tryz.f439 = [] := by kernel_rfl
theorem ip439 : inP Tryz.f439 = false := by kernel_rfl
end Go.Proofs.YtkbpafbbogjifaaGreat

/- A table of calls; no conditions. -/
namespace Go.Proofs.YtkbpafbbogjifaaGreat
open Go Go.Proofs.Rn
theorem ed440 : Tryz.prog.leadsTo Tryz.f440 = [362, 400] := by kernel_rfl
theorem ip440 : inP Tryz.f440 = false := by kernel_rfl
theorem ed441 : Tryz.prog.leadsTo Tryz.f441 = [86, 277] := by kernel_rfl
theorem ip441 : inP Tryz.f441 = false := by kernel_rfl
theorem ed442 : Tryz.prog.leadsTo Tryz.f442 = [501, 502] := by kernel_rfl
theorem ip442 : inP Tryz.f442 = false := by kernel_rfl
theorem ed443 : Tryz.prog.leadsTo Tryz.f443 = [503, 504] := by kernel_rfl
theorem ip443 : inP Tryz.f443 = false := by kernel_rfl
theorem ed444 : Tryz.prog.leadsTo Tryz.f444 = [86, 277] := by kernel_rfl
theorem ip444 : inP Tryz.f444 = false := by kernel_rfl
theorem ed445 : Tryz.prog.leadsTo Tryz.f445 = [217, 505] := by kernel_rfl
theorem ip445 : inP Tryz.f445 = false := by kernel_rfl
theorem ed446 : Tryz.prog.leadsTo Tryz.f446 = [86, 267, 506, 443, 507] := by kernel_rfl
theorem ip446 : inP Tryz.f446 = false := by kernel_rfl
theorem ed447 : Tryz.prog.leadsTo Tryz.f447 = [219, 508, 438, 439] := by kernel_rfl
theorem ip447 : inP Tryz.f447 = false := by kernel_rfl
theorem ed448 : Tryz.prog.leadsTo Tryz.f448 = [219, 510, 509] := by kernel_rfl
theorem ip448 : inP Tryz.f448 = false := by kernel_rfl
theorem ed449 : Tryz.prog.leadsTo Tryz.f449 = [512, 511, 502] := by kernel_rfl
theorem ip449 : inP Tryz.f449 = false := by kernel_rfl
theorem ed450 : Tryz.prog.leadsTo Tryz.f450 = [512, 513, 502] := by kernel_rfl
theorem ip450 : inP Tryz.f450 = false := by kernel_rfl
theorem ed451 : Tryz.prog.leadsTo Tryz.f451 = [502] := by kernel_rfl
theorem ip451 : inP Tryz.f451 = false := by kernel_rfl
theorem ed452 : Tryz.prog.leadsTo Tryz.f452 = [501, 502] := by kernel_rfl
theorem ip452 : inP Tryz.f452 = false := by kernel_rfl
theorem ed453 : Tryz.prog.leadsTo Tryz.f453 = [118, 514] := by kernel_rfl
theorem ip453 : inP Tryz.f453 = false := by kernel_rfl
theorem ed454 : Tryz.prog.leadsTo Tryz.f454 = [] := by kernel_rfl
theorem ip454 : inP Tryz.f454 = false := by kernel_rfl
theorem ed455 : Tryz.prog.leadsTo Tryz.f455 = [74] := by kernel_rfl
theorem ip455 : inP Tryz.f455 = false := by kernel_rfl
theorem ed456 : Tryz.prog.leadsTo Tryz.f456 = [515] := by kernel_rfl
theorem ip456 : inP Tryz.f456 = false := by kernel_rfl
theorem ed457 : Tryz.prog.leadsTo Tryz.f457 = [] := by kernel_rfl
theorem ip457 : inP Tryz.f457 = false := by kernel_rfl
theorem ed458 : Tryz.prog.leadsTo Tryz.f458 = [] := by kernel_rfl
theorem ip458 : inP Tryz.f458 = false := by kernel_rfl
theorem ed459 : Tryz.prog.leadsTo Tryz.f459 = [516] := by kernel_rfl
theorem ip459 : inP Tryz.f459 = false := by kernel_rfl
theorem ed460 : Tryz.prog.leadsTo Tryz.f460 = [] := by kernel_rfl
theorem ip460 : inP Tryz.f460 = false := by kernel_rfl
theorem ed461 : Tryz.prog.leadsTo Tryz.f461 = [118] := by kernel_rfl
theorem ip461 : inP Tryz.f461 = false := by kernel_rfl
theorem ed462 : Tryz.prog.leadsTo Tryz.f462 = [517] := by kernel_rfl
theorem ip462 : inP Tryz.f462 = false := by kernel_rfl
theorem ed463 : Tryz.prog.leadsTo Tryz.f463 = [518] := by kernel_rfl
theorem ip463 : inP Tryz.f463 = false := by kernel_rfl
theorem ed464 : Tryz.prog.leadsTo Tryz.f464 = [118, 122, 178] := by kernel_rfl
theorem ip464 : inP Tryz.f464 = false := by kernel_rfl
theorem ed465 : Tryz.prog.leadsTo Tryz.f465 = [238, 179, 333, 240, 333, 179, 333, 463, 464, 334, 324, 336] := by kernel_rfl
theorem ip465 : inP Tryz.f465 = false := by kernel_rfl
theorem ed466 : Tryz.prog.leadsTo Tryz.f466 = [] := by kernel_rfl
theorem ip466 : inP Tryz.f466 = false := by kernel_rfl
theorem ed467 : Tryz.prog.leadsTo Tryz.f467 = [] := by kernel_rfl
theorem ip467 : inP Tryz.f467 = false := by kernel_rfl
theorem ed468 : Tryz.prog.leadsTo Tryz.f468 = [] := by kernel_rfl
theorem ip468 : inP Tryz.f468 = false := by kernel_rfl
theorem ed469 : Tryz.prog.leadsTo Tryz.f469 = [519, 520, 521, 522, 523, 524, 525, 526, 527, 469, 469] := by kernel_rfl
theorem ip469 : inP Tryz.f469 = false := by kernel_rfl
theorem ed470 : Tryz.prog.leadsTo Tryz.f470 = [528, 529] := by kernel_rfl
theorem ip470 : inP Tryz.f470 = false := by kernel_rfl
theorem ed471 : Tryz.prog.leadsTo Tryz.f471 = [530, 531, 532, 533, 534, 535, 536, 537, 538, 471, 471] := by kernel_rfl
theorem ip471 : inP Tryz.f471 = false := by kernel_rfl
theorem ed472 : Tryz.prog.leadsTo Tryz.f472 = [] := by kernel_rfl
theorem ip472 : inP Tryz.f472 = false := by kernel_rfl
theorem ed473 : Tryz.prog.leadsTo Tryz.f473 = [] := by kernel_rfl
theorem ip473 : inP Tryz.f473 = false := by kernel_rfl
theorem ed474 : Tryz.prog.leadsTo Tryz.f474 = [539] := by kernel_rfl
theorem ip474 : inP Tryz.f474 = false := by kernel_rfl
theorem ed475 : Tryz.prog.leadsTo Tryz.f475 = [] := by kernel_rfl
theorem ip475 : inP Tryz.f475 = false := by kernel_rfl
theorem ed476 : Tryz.prog.leadsTo Tryz.f476 = [] := by kernel_rfl
theorem ip476 : inP Tryz.f476 = false := by kernel_rfl
theorem ed477 : Tryz.prog.leadsTo Tryz.f477 = [541, 540] := by kernel_rfl
theorem ip477 : inP Tryz.f477 = false := by kernel_rfl
theorem ed478 : Tryz.prog.leadsTo Tryz.f478 = [148] := by kernel_rfl
theorem ip478 : inP Tryz.f478 = false := by kernel_rfl
theorem ed479 : Tryz.prog.leadsTo Tryz.f479 = [543] := by kernel_rfl
theorem ip479 : inP Tryz.f479 = false := by kernel_rfl
theorem ed480 : Tryz.prog.leadsTo Tryz.f480 = [470, 544] := by kernel_rfl
theorem ip480 : inP Tryz.f480 = false := by kernel_rfl
theorem ed481 : Tryz.prog.leadsTo Tryz.f481 = [] := by kernel_rfl
theorem ip481 : inP Tryz.f481 = false := by kernel_rfl
theorem ed482 : Tryz.prog.leadsTo Tryz.f482 = [545] := by kernel_rfl
theorem ip482 : inP Tryz.f482 = false := by kernel_rfl
theorem ed483 : Tryz.prog.leadsTo Tryz.f483 = [63, 64, 72] := by kernel_rfl
theorem ip483 : inP Tryz.f483 = false := by kernel_rfl
theorem ed484 : Tryz.prog.leadsTo Tryz.f484 = [63, 64, 64, 64, 327, 72, 300] := by kernel_rfl
theorem ip484 : inP Tryz.f484 = false := by kernel_rfl
theorem ed485 : Tryz.prog.leadsTo Tryz.f485 = [] := by kernel_rfl
theorem ip485 : inP Tryz.f485 = false := by kernel_rfl
theorem ed486 : Tryz.prog.leadsTo Tryz.f486 = [] := by kernel_rfl
theorem ip486 : inP Tryz.f486 = false := by kernel_rfl
theorem ed487 : Tryz.prog.leadsTo Tryz.f487 = [] := by kernel_rfl
theorem ip487 : inP Tryz.f487 = false := by kernel_rfl
theorem ed488 : Tryz.prog.leadsTo Tryz.f488 = [472, 547, 546] := by kernel_rfl
theorem ip488 : inP Tryz.f488 = false := by kernel_rfl
theorem ed489 : Tryz.prog.leadsTo Tryz.f489 = [472] := by kernel_rfl
theorem ip489 : inP Tryz.f489 = false := by kernel_rfl
theorem ed490 : Tryz.prog.leadsTo Tryz.f490 = [548] := by kernel_rfl
theorem ip490 : inP Tryz.f490 = false := by kernel_rfl
theorem ed491 : Tryz.prog.leadsTo Tryz.f491 = [549, 550] := by kernel_rfl
theorem ip491 : inP Tryz.f491 = false := by kernel_rfl
theorem ed492 : Tryz.prog.leadsTo Tryz.f492 = [551] := by kernel_rfl
theorem ip492 : inP Tryz.f492 = false := by kernel_rfl
theorem ed493 : Tryz.prog.leadsTo Tryz.f493 = [551] := by kernel_rfl
theorem ip493 : inP Tryz.f493 = false := by kernel_rfl
theorem ed494 : Tryz.prog.leadsTo Tryz.f494 = [] := by kernel_rfl
theorem ip494 : inP Tryz.f494 = false := by kernel_rfl
theorem ed495 : Tryz.prog.leadsTo Tryz.f495 = [] := by kernel_rfl
theorem ip495 : inP Tryz.f495 = false := by kernel_rfl
theorem ed496 : Tryz.prog.leadsTo Tryz.f496 = [] := by kernel_rfl
theorem ip496 : inP Tryz.f496 = false := by kernel_rfl
theorem ed497 : Tryz.prog.leadsTo Tryz.f497 = [486, 486] := by kernel_rfl
theorem ip497 : inP Tryz.f497 = false := by kernel_rfl
theorem ed498 : Tryz.prog.leadsTo Tryz.f498 = [] := by kernel_rfl
theorem ip498 : inP Tryz.f498 = false := by kernel_rfl
theorem ed499 : Tryz.prog.leadsTo Tryz.f499 = [] := by kernel_rfl
theorem ip499 : inP Tryz.f499 = false := by kernel_rfl
theorem ed500 : Tryz.prog.leadsTo Tryz.f500 = [] := by kernel_rfl
theorem ip500 : inP Tryz.f500 = false := by kernel_rfl
theorem ed501 : Tryz.prog.leadsTo Tryz.f501 = [205, 552] := by kernel_rfl
theorem ip501 : inP Tryz.f501 = false := by kernel_rfl
theorem ed502 : Tryz.prog.leadsTo Tryz.f502 = [] := by kernel_rfl
theorem ip502 : inP Tryz.f502 = false := by kernel_rfl
theorem ed503 : Tryz.prog.leadsTo Tryz.f503 = [217, 553] := by kernel_rfl
theorem ip503 : inP Tryz.f503 = false := by kernel_rfl
theorem ed504 : Tryz.prog.leadsTo Tryz.f504 = [217, 257, 269, 349, 553, 266] := by kernel_rfl
theorem ip504 : inP Tryz.f504 = false := by kernel_rfl
theorem ed505 : Tryz.prog.leadsTo Tryz.f505 = [280, 245, 554, 555, 405] := by kernel_rfl
theorem ip505 : inP Tryz.f505 = false := by kernel_rfl
theorem ed506 : Tryz.prog.leadsTo Tryz.f506 = [205, 512, 556, 502] := by kernel_rfl
theorem ip506 : inP Tryz.f506 = false := by kernel_rfl
theorem ed507 : Tryz.prog.leadsTo Tryz.f507 = [219, 346, 260, 509, 557] := by kernel_rfl
theorem ip507 : inP Tryz.f507 = false := by kernel_rfl
theorem ed508 : Tryz.prog.leadsTo Tryz.f508 = [293] := by kernel_rfl
theorem ip508 : inP Tryz.f508 = false := by kernel_rfl
theorem ed509 : Tryz.prog.leadsTo Tryz.f509 = [] := by kernel_rfl
theorem ip509 : inP Tryz.f509 = false := by kernel_rfl
theorem ed510 : Tryz.prog.leadsTo Tryz.f510 = [] := by kernel_rfl
theorem ip510 : inP Tryz.f510 = false := by kernel_rfl
theorem ed511 : Tryz.prog.leadsTo Tryz.f511 = [558, 559] := by kernel_rfl
theorem ip511 : inP Tryz.f511 = false := by kernel_rfl
theorem ed512 : Tryz.prog.leadsTo Tryz.f512 = [] := by kernel_rfl
theorem ip512 : inP Tryz.f512 = false := by kernel_rfl
theorem ed513 : Tryz.prog.leadsTo Tryz.f513 = [558, 552] := by kernel_rfl
theorem ip513 : inP Tryz.f513 = false := by kernel_rfl
theorem ed514 : Tryz.prog.leadsTo Tryz.f514 = [] := by kernel_rfl
theorem ip514 : inP Tryz.f514 = false := by kernel_rfl
theorem ed515 : Tryz.prog.leadsTo Tryz.f515 = [] := by kernel_rfl
theorem ip515 : inP Tryz.f515 = false := by kernel_rfl
theorem ed516 : Tryz.prog.leadsTo Tryz.f516 = [] := by kernel_rfl
theorem ip516 : inP Tryz.f516 = false := by kernel_rfl
theorem ed517 : Tryz.prog.leadsTo Tryz.f517 = [] := by kernel_rfl
theorem ip517 : inP Tryz.f517 = false := by kernel_rfl
theorem ed518 : Tryz.prog.leadsTo Tryz.f518 = [300, 118, 453, 122, 178] := by kernel_rfl
theorem ip518 : inP Tryz.f518 = false := by kernel_rfl
theorem ed519 : Tryz.prog.leadsTo Tryz.f519 = [525] := by kernel_rfl
theorem ip519 : inP Tryz.f519 = false := by kernel_rfl
theorem ed520 : Tryz.prog.leadsTo Tryz.f520 = [560, 560] := by kernel_rfl
theorem ip520 : inP Tryz.f520 = false := by kernel_rfl
theorem ed521 : Tryz.prog.leadsTo Tryz.f521 = [561, 562] := by kernel_rfl
theorem ip521 : inP Tryz.f521 = false := by kernel_rfl
theorem ed522 : Tryz.prog.leadsTo Tryz.f522 = [563, 563, 563, 564] := by kernel_rfl
theorem ip522 : inP Tryz.f522 = false := by kernel_rfl
theorem ed523 : Tryz.prog.leadsTo Tryz.f523 = [] := by kernel_rfl
theorem ip523 : inP Tryz.f523 = false := by kernel_rfl
theorem ed524 : Tryz.prog.leadsTo Tryz.f524 = [525, 525, 525] := by kernel_rfl
theorem ip524 : inP Tryz.f524 = false := by kernel_rfl
theorem ed525 : Tryz.prog.leadsTo Tryz.f525 = [565, 565] := by kernel_rfl
theorem ip525 : inP Tryz.f525 = false := by kernel_rfl
theorem ed526 : Tryz.prog.leadsTo Tryz.f526 = [525, 525] := by kernel_rfl
theorem ip526 : inP Tryz.f526 = false := by kernel_rfl
theorem ed527 : Tryz.prog.leadsTo Tryz.f527 = [525, 525, 525, 525] := by kernel_rfl
theorem ip527 : inP Tryz.f527 = false := by kernel_rfl
theorem ed528 : Tryz.prog.leadsTo Tryz.f528 = [] := by kernel_rfl
theorem ip528 : inP Tryz.f528 = false := by kernel_rfl
theorem ed529 : Tryz.prog.leadsTo Tryz.f529 = [] := by kernel_rfl
theorem ip529 : inP Tryz.f529 = false := by kernel_rfl
theorem ed530 : Tryz.prog.leadsTo Tryz.f530 = [536] := by kernel_rfl
theorem ip530 : inP Tryz.f530 = false := by kernel_rfl
theorem ed531 : Tryz.prog.leadsTo Tryz.f531 = [566, 566] := by kernel_rfl
theorem ip531 : inP Tryz.f531 = false := by kernel_rfl
theorem ed532 : Tryz.prog.leadsTo Tryz.f532 = [561, 562] := by kernel_rfl
theorem ip532 : inP Tryz.f532 = false := by kernel_rfl
theorem ed533 : Tryz.prog.leadsTo Tryz.f533 = [567, 567, 567, 568] := by kernel_rfl
theorem ip533 : inP Tryz.f533 = false := by kernel_rfl
theorem ed534 : Tryz.prog.leadsTo Tryz.f534 = [] := by kernel_rfl
theorem ip534 : inP Tryz.f534 = false := by kernel_rfl
theorem ed535 : Tryz.prog.leadsTo Tryz.f535 = [536, 536, 536] := by kernel_rfl
theorem ip535 : inP Tryz.f535 = false := by kernel_rfl
theorem ed536 : Tryz.prog.leadsTo Tryz.f536 = [487, 487] := by kernel_rfl
theorem ip536 : inP Tryz.f536 = false := by kernel_rfl
theorem ed537 : Tryz.prog.leadsTo Tryz.f537 = [536, 536] := by kernel_rfl
theorem ip537 : inP Tryz.f537 = false := by kernel_rfl
theorem ed538 : Tryz.prog.leadsTo Tryz.f538 = [536, 536, 536, 536] := by kernel_rfl
theorem ip538 : inP Tryz.f538 = false := by kernel_rfl
theorem ed539 : Tryz.prog.leadsTo Tryz.f539 = [569, 569, 570, 570] := by kernel_rfl
theorem ip539 : inP Tryz.f539 = false := by kernel_rfl
theorem ed540 : Tryz.prog.leadsTo Tryz.f540 = [571, 572, 573] := by kernel_rfl
theorem ip540 : inP Tryz.f540 = false := by kernel_rfl
theorem ed541 : Tryz.prog.leadsTo Tryz.f541 = [542] := by kernel_rfl
theorem ip541 : inP Tryz.f541 = false := by kernel_rfl
theorem ed542 : Tryz.prog.leadsTo Tryz.f542 = [] := by kernel_rfl
theorem ip542 : inP Tryz.f542 = false := by kernel_rfl
theorem ed543 : Tryz.prog.leadsTo Tryz.f543 = [] := by kernel_rfl
theorem ip543 : inP Tryz.f543 = false := by kernel_rfl
theorem ed544 : Tryz.prog.leadsTo Tryz.f544 = [574, 575, 576, 577, 578, 579, 580, 581, 582, 544, 544] := by kernel_rfl
theorem ip544 : inP Tryz.f544 = false := by kernel_rfl
theorem ed545 : Tryz.prog.leadsTo Tryz.f545 = [] := by kernel_rfl
theorem ip545 : inP Tryz.f545 = true := by kernel_rfl
theorem ed546 : Tryz.prog.leadsTo Tryz.f546 = [] := by kernel_rfl
theorem ip546 : inP Tryz.f546 = false := by kernel_rfl
theorem ed547 : Tryz.prog.leadsTo Tryz.f547 = [] := by kernel_rfl
theorem ip547 : inP Tryz.f547 = false := by kernel_rfl
theorem ed548 : Tryz.prog.leadsTo Tryz.f548 = [] := by kernel_rfl
theorem ip548 : inP Tryz.f548 = true := by kernel_rfl
theorem ed549 : Tryz.prog.leadsTo Tryz.f549 = [583] := by kernel_rfl
theorem ip549 : inP Tryz.f549 = false := by kernel_rfl
end Go.Proofs.YtkbpafbbogjifaaGreat

/- A table of calls; no conditions. -/
namespace Go.Proofs.YtkbpafbbogjifaaGreat
open Go Go.Proofs.Rn
theorem ed550 : Tryz.prog.leadsTo Tryz.f550 = [584, 585, 549, 551] := by kernel_rfl
theorem ip550 : inP Tryz.f550 = false := by kernel_rfl
theorem ed551 : Tryz.prog.leadsTo Tryz.f551 = [587, 586] := by kernel_rfl
theorem ip551 : inP Tryz.f551 = false := by kernel_rfl
theorem ed552 : Tryz.prog.leadsTo Tryz.f552 = [268] := by kernel_rfl
theorem ip552 : inP Tryz.f552 = false := by kernel_rfl
theorem ed553 : Tryz.prog.leadsTo Tryz.f553 = [348, 588] := by kernel_rfl
theorem ip553 : inP Tryz.f553 = false := by kernel_rfl
theorem ed554 : Tryz.prog.leadsTo Tryz.f554 = [] := by kernel_rfl
theorem ip554 : inP Tryz.f554 = false := by kernel_rfl
theorem ed555 : Tryz.prog.leadsTo Tryz.f555 = [589, 590, 590] := by kernel_rfl
theorem ip555 : inP Tryz.f555 = false := by kernel_rfl
theorem ed556 : Tryz.prog.leadsTo Tryz.f556 = [205, 552] := by kernel_rfl
theorem ip556 : inP Tryz.f556 = false := by kernel_rfl
theorem ed557 : Tryz.prog.leadsTo Tryz.f557 = [293] := by kernel_rfl
theorem ip557 : inP Tryz.f557 = false := by kernel_rfl
theorem ed558 : Tryz.prog.leadsTo Tryz.f558 = [] := by kernel_rfl
theorem ip558 : inP Tryz.f558 = false := by kernel_rfl
theorem ed559 : Tryz.prog.leadsTo Tryz.f559 = [353, 591] := by kernel_rfl
theorem ip559 : inP Tryz.f559 = false := by kernel_rfl
theorem ed560 : Tryz.prog.leadsTo Tryz.f560 = [525, 525] := by kernel_rfl
theorem ip560 : inP Tryz.f560 = false := by kernel_rfl
theorem ed561 : Tryz.prog.leadsTo Tryz.f561 = [470] := by kernel_rfl
theorem ip561 : inP Tryz.f561 = false := by kernel_rfl
theorem ed562 : Tryz.prog.leadsTo Tryz.f562 = [] := by kernel_rfl
theorem ip562 : inP Tryz.f562 = false := by kernel_rfl
theorem ed563 : Tryz.prog.leadsTo Tryz.f563 = [564] := by kernel_rfl
theorem ip563 : inP Tryz.f563 = false := by kernel_rfl
theorem ed564 : Tryz.prog.leadsTo Tryz.f564 = [592, 592, 592] := by kernel_rfl
theorem ip564 : inP Tryz.f564 = false := by kernel_rfl
theorem ed565 : Tryz.prog.leadsTo Tryz.f565 = [] := by kernel_rfl
theorem ip565 : inP Tryz.f565 = false := by kernel_rfl
theorem ed566 : Tryz.prog.leadsTo Tryz.f566 = [536, 536] := by kernel_rfl
theorem ip566 : inP Tryz.f566 = false := by kernel_rfl
theorem ed567 : Tryz.prog.leadsTo Tryz.f567 = [568] := by kernel_rfl
theorem ip567 : inP Tryz.f567 = false := by kernel_rfl
theorem ed568 : Tryz.prog.leadsTo Tryz.f568 = [593, 593, 593] := by kernel_rfl
theorem ip568 : inP Tryz.f568 = false := by kernel_rfl
theorem ed569 : Tryz.prog.leadsTo Tryz.f569 = [] := by kernel_rfl
theorem ip569 : inP Tryz.f569 = false := by kernel_rfl
theorem ed570 : Tryz.prog.leadsTo Tryz.f570 = [594, 570, 570] := by kernel_rfl
theorem ip570 : inP Tryz.f570 = false := by kernel_rfl
theorem ed571 : Tryz.prog.leadsTo Tryz.f571 = [595] := by kernel_rfl
theorem ip571 : inP Tryz.f571 = false := by kernel_rfl
theorem ed572 : Tryz.prog.leadsTo Tryz.f572 = [596] := by kernel_rfl
theorem ip572 : inP Tryz.f572 = false := by kernel_rfl
theorem ed573 : Tryz.prog.leadsTo Tryz.f573 = [597] := by kernel_rfl
theorem ip573 : inP Tryz.f573 = false := by kernel_rfl
theorem ed574 : Tryz.prog.leadsTo Tryz.f574 = [580] := by kernel_rfl
theorem ip574 : inP Tryz.f574 = false := by kernel_rfl
theorem ed575 : Tryz.prog.leadsTo Tryz.f575 = [598, 598] := by kernel_rfl
theorem ip575 : inP Tryz.f575 = false := by kernel_rfl
theorem ed576 : Tryz.prog.leadsTo Tryz.f576 = [561, 562] := by kernel_rfl
theorem ip576 : inP Tryz.f576 = false := by kernel_rfl
theorem ed577 : Tryz.prog.leadsTo Tryz.f577 = [599, 599, 599, 600] := by kernel_rfl
theorem ip577 : inP Tryz.f577 = false := by kernel_rfl
theorem ed578 : Tryz.prog.leadsTo Tryz.f578 = [] := by kernel_rfl
theorem ip578 : inP Tryz.f578 = false := by kernel_rfl
theorem ed579 : Tryz.prog.leadsTo Tryz.f579 = [580, 580, 580] := by kernel_rfl
theorem ip579 : inP Tryz.f579 = false := by kernel_rfl
theorem ed580 : Tryz.prog.leadsTo Tryz.f580 = [601, 601] := by kernel_rfl
theorem ip580 : inP Tryz.f580 = false := by kernel_rfl
theorem ed581 : Tryz.prog.leadsTo Tryz.f581 = [580, 580] := by kernel_rfl
theorem ip581 : inP Tryz.f581 = false := by kernel_rfl
theorem ed582 : Tryz.prog.leadsTo Tryz.f582 = [580, 580, 580, 580] := by kernel_rfl
theorem ip582 : inP Tryz.f582 = false := by kernel_rfl
theorem ed583 : Tryz.prog.leadsTo Tryz.f583 = [] := by kernel_rfl
theorem ip583 : inP Tryz.f583 = true := by kernel_rfl
theorem ed584 : Tryz.prog.leadsTo Tryz.f584 = [602] := by kernel_rfl
theorem ip584 : inP Tryz.f584 = false := by kernel_rfl
theorem ed585 : Tryz.prog.leadsTo Tryz.f585 = [603] := by kernel_rfl
theorem ip585 : inP Tryz.f585 = false := by kernel_rfl
theorem ed586 : Tryz.prog.leadsTo Tryz.f586 = [] := by kernel_rfl
theorem ip586 : inP Tryz.f586 = true := by kernel_rfl
theorem ed587 : Tryz.prog.leadsTo Tryz.f587 = [] := by kernel_rfl
theorem ip587 : inP Tryz.f587 = false := by kernel_rfl
theorem ed588 : Tryz.prog.leadsTo Tryz.f588 = [488] := by kernel_rfl
theorem ip588 : inP Tryz.f588 = false := by kernel_rfl
theorem ed589 : Tryz.prog.leadsTo Tryz.f589 = [350] := by kernel_rfl
theorem ip589 : inP Tryz.f589 = false := by kernel_rfl
theorem ed590 : Tryz.prog.leadsTo Tryz.f590 = [472, 404] := by kernel_rfl
theorem ip590 : inP Tryz.f590 = false := by kernel_rfl
theorem ed591 : Tryz.prog.leadsTo Tryz.f591 = [353, 354, 354, 357, 357, 604] := by kernel_rfl
theorem ip591 : inP Tryz.f591 = false := by kernel_rfl
theorem ed592 : Tryz.prog.leadsTo Tryz.f592 = [525] := by kernel_rfl
theorem ip592 : inP Tryz.f592 = false := by kernel_rfl
theorem ed593 : Tryz.prog.leadsTo Tryz.f593 = [536] := by kernel_rfl
theorem ip593 : inP Tryz.f593 = false := by kernel_rfl
theorem ed594 : Tryz.prog.leadsTo Tryz.f594 = [605, 605, 605] := by kernel_rfl
theorem ip594 : inP Tryz.f594 = false := by kernel_rfl
theorem ed595 : Tryz.prog.leadsTo Tryz.f595 = [] := by kernel_rfl
theorem ip595 : inP Tryz.f595 = false := by kernel_rfl
theorem ed596 : Tryz.prog.leadsTo Tryz.f596 = [] := by kernel_rfl
theorem ip596 : inP Tryz.f596 = true := by kernel_rfl
theorem ed597 : Tryz.prog.leadsTo Tryz.f597 = [] := by kernel_rfl
theorem ip597 : inP Tryz.f597 = true := by kernel_rfl
theorem ed598 : Tryz.prog.leadsTo Tryz.f598 = [580, 580] := by kernel_rfl
theorem ip598 : inP Tryz.f598 = false := by kernel_rfl
theorem ed599 : Tryz.prog.leadsTo Tryz.f599 = [600] := by kernel_rfl
theorem ip599 : inP Tryz.f599 = false := by kernel_rfl
theorem ed600 : Tryz.prog.leadsTo Tryz.f600 = [606, 606, 606] := by kernel_rfl
theorem ip600 : inP Tryz.f600 = false := by kernel_rfl
theorem ed601 : Tryz.prog.leadsTo Tryz.f601 = [] := by kernel_rfl
theorem ip601 : inP Tryz.f601 = false := by kernel_rfl
theorem ed602 : Tryz.prog.leadsTo Tryz.f602 = [607, 608, 609, 610, 611] := by kernel_rfl
theorem ip602 : inP Tryz.f602 = true := by kernel_rfl
theorem ed603 : Tryz.prog.leadsTo Tryz.f603 = [612, 607, 613, 614, 609] := by kernel_rfl
theorem ip603 : inP Tryz.f603 = true := by kernel_rfl
theorem ed604 : Tryz.prog.leadsTo Tryz.f604 = [494, 615] := by kernel_rfl
theorem ip604 : inP Tryz.f604 = false := by kernel_rfl
theorem ed605 : Tryz.prog.leadsTo Tryz.f605 = [] := by kernel_rfl
theorem ip605 : inP Tryz.f605 = false := by kernel_rfl
theorem ed606 : Tryz.prog.leadsTo Tryz.f606 = [580] := by kernel_rfl
theorem ip606 : inP Tryz.f606 = false := by kernel_rfl
theorem ed607 : Tryz.prog.leadsTo Tryz.f607 = [] := by kernel_rfl
theorem ip607 : inP Tryz.f607 = true := by kernel_rfl
theorem ed608 : Tryz.prog.leadsTo Tryz.f608 = [] := by kernel_rfl
theorem ip608 : inP Tryz.f608 = true := by kernel_rfl
theorem ed609 : Tryz.prog.leadsTo Tryz.f609 = [] := by kernel_rfl
theorem ip609 : inP Tryz.f609 = true := by kernel_rfl
theorem ed610 : Tryz.prog.leadsTo Tryz.f610 = [] := by kernel_rfl
theorem ip610 : inP Tryz.f610 = true := by kernel_rfl
theorem ed611 : Tryz.prog.leadsTo Tryz.f611 = [616, 608, 617, 618, 608, 619, 620, 619, 618, 613, 609, 610] := by kernel_rfl
theorem ip611 : inP Tryz.f611 = true := by kernel_rfl
theorem ed612 : Tryz.prog.leadsTo Tryz.f612 = [] := by kernel_rfl
theorem ip612 : inP Tryz.f612 = true := by kernel_rfl
theorem ed613 : Tryz.prog.leadsTo Tryz.f613 = [] := by kernel_rfl
theorem ip613 : inP Tryz.f613 = true := by kernel_rfl
theorem ed614 : Tryz.prog.leadsTo Tryz.f614 = [621, 608, 622, 622] := by kernel_rfl
theorem ip614 : inP Tryz.f614 = true := by kernel_rfl
theorem ed615 : Tryz.prog.leadsTo Tryz.f615 = [420, 623] := by kernel_rfl
theorem ip615 : inP Tryz.f615 = false := by kernel_rfl
theorem ed616 : Tryz.prog.leadsTo Tryz.f616 = [] := by kernel_rfl
theorem ip616 : inP Tryz.f616 = true := by kernel_rfl
theorem ed617 : Tryz.prog.leadsTo Tryz.f617 = [] := by kernel_rfl
theorem ip617 : inP Tryz.f617 = true := by kernel_rfl
theorem ed618 : Tryz.prog.leadsTo Tryz.f618 = [] := by kernel_rfl
theorem ip618 : inP Tryz.f618 = true := by kernel_rfl
theorem ed619 : Tryz.prog.leadsTo Tryz.f619 = [] := by kernel_rfl
theorem ip619 : inP Tryz.f619 = true := by kernel_rfl
theorem ed620 : Tryz.prog.leadsTo Tryz.f620 = [] := by kernel_rfl
theorem ip620 : inP Tryz.f620 = true := by kernel_rfl
theorem ed621 : Tryz.prog.leadsTo Tryz.f621 = [] := by kernel_rfl
theorem ip621 : inP Tryz.f621 = true := by kernel_rfl
theorem ed622 : Tryz.prog.leadsTo Tryz.f622 = [] := by kernel_rfl
theorem ip622 : inP Tryz.f622 = true := by kernel_rfl
theorem ed623 : Tryz.prog.leadsTo Tryz.f623 = [] := by kernel_rfl
theorem ip623 : inP Tryz.f623 = false := by kernel_rfl
theorem ed624 : Tryz.prog.leadsTo Tryz.f624 = [] := by kernel_rfl
theorem ip624 : inP Tryz.f624 = true := by kernel_rfl
theorem ed625 : Tryz.prog.leadsTo Tryz.f625 = [] := by kernel_rfl
theorem ip625 : inP Tryz.f625 = true := by kernel_rfl
theorem ed626 : Tryz.prog.leadsTo Tryz.f626 = [] := by kernel_rfl
theorem ip626 : inP Tryz.f626 = true := by kernel_rfl
theorem ed627 : Tryz.prog.leadsTo Tryz.f627 = [] := by kernel_rfl
theorem ip627 : inP Tryz.f627 = true := by kernel_rfl
theorem ed628 : Tryz.prog.leadsTo Tryz.f628 = [] := by kernel_rfl
theorem ip628 : inP Tryz.f628 = true := by kernel_rfl
theorem ed629 : Tryz.prog.leadsTo Tryz.f629 = [] := by kernel_rfl
theorem ip629 : inP Tryz.f629 = true := by kernel_rfl
theorem ed630 : Tryz.prog.leadsTo Tryz.f630 = [] := by kernel_rfl
theorem ip630 : inP Tryz.f630 = true := by kernel_rfl
theorem ed631 : Tryz.prog.leadsTo Tryz.f631 = [] := by kernel_rfl
theorem ip631 : inP Tryz.f631 = true := by kernel_rfl
theorem ed632 : Tryz.prog.leadsTo Tryz.f632 = [] := by kernel_rfl
theorem ip632 : inP Tryz.f632 = true := by kernel_rfl
theorem ed633 : Tryz.prog.leadsTo Tryz.f633 = [] := by kernel_rfl
theorem ip633 : inP Tryz.f633 = true := by kernel_rfl
theorem ed634 : Tryz.prog.leadsTo Tryz.f634 = [] := by kernel_rfl
theorem ip634 : inP Tryz.f634 = true := by kernel_rfl
theorem ed635 : Tryz.prog.leadsTo Tryz.f635 = [] := by kernel_rfl
theorem ip635 : inP Tryz.f635 = true := by kernel_rfl
theorem ed636 : Tryz.prog.leadsTo Tryz.f636 = [] := by kernel_rfl
theorem ip636 : inP Tryz.f636 = true := by kernel_rfl
theorem ed637 : Tryz.prog.leadsTo Tryz.f637 = [] := by kernel_rfl
theorem ip637 : inP Tryz.f637 = true := by kernel_rfl
theorem ed638 : Tryz.prog.leadsTo Tryz.f638 = [] := by kernel_rfl
theorem ip638 : inP Tryz.f638 = true := by kernel_rfl
theorem ed639 : Tryz.prog.leadsTo Tryz.f639 = [] := by kernel_rfl
theorem ip639 : inP Tryz.f639 = true := by kernel_rfl
theorem ed640 : Tryz.prog.leadsTo Tryz.f640 = [] := by kernel_rfl
theorem ip640 : inP Tryz.f640 = true := by kernel_rfl
theorem ed641 : Tryz.prog.leadsTo Tryz.f641 = [] := by kernel_rfl
theorem ip641 : inP Tryz.f641 = true := by kernel_rfl
theorem ed642 : Tryz.prog.leadsTo Tryz.f642 = [] := by kernel_rfl
theorem ip642 : inP Tryz.f642 = true := by kernel_rfl
theorem ed643 : Tryz.prog.leadsTo Tryz.f643 = [] := by kernel_rfl
theorem ip643 : inP Tryz.f643 = true := by kernel_rfl
theorem ed644 : Tryz.prog.leadsTo Tryz.f644 = [] := by kernel_rfl
theorem ip644 : inP Tryz.f644 = true := by kernel_rfl
theorem ed645 : Tryz.prog.leadsTo Tryz.f645 = [] := by kernel_rfl
theorem ip645 : inP Tryz.f645 = true := by kernel_rfl
end Go.Proofs.YtkbpafbbogjifaaGreat
