/- Several texts in one: Ed1, Ed2, Ed3, Ed4, Ed5, Ed6, Ed7. What each proves stands ahead of it. -/
import Derived.Test.YtjdebeibhnjbgaaGreatBc
import Derived.Test.YtjdebeibhnjbgaaGreatProg
import Derived.KernelRfl
/- A table of calls; no conditions. -/
namespace Go.Proofs.YtjdebeibhnjbgaaGreat
open Go Go.Proofs.Rn
theorem ed0 : Tryz.prog.leadsTo Tryz.f0 = [] := by kernel_rfl
theorem ip0 : inP Tryz.f0 = true := by kernel_rfl
theorem ed1 : Tryz.prog.leadsTo Tryz.f1 = [] := by kernel_rfl
theorem ip1 : inP Tryz.f1 = true := by kernel_rfl
theorem ed2 : Tryz.prog.leadsTo Tryz.f2 = [1] := by kernel_rfl
theorem ip2 : inP Tryz.f2 = false := by kernel_rfl
theorem ed3 : Tryz.prog.leadsTo Tryz.f3 = [4, 5, 6, 7, 8, 9, 10, 11, 12, 13, 14, 15, 16, 5] := by kernel_rfl
theorem ip3 : inP Tryz.f3 = false := by kernel_rfl
theorem ed4 : Tryz.prog.leadsTo Tryz.f4 = [17] := by kernel_rfl
theorem ip4 : inP Tryz.f4 = false := by kernel_rfl
theorem ed5 : Tryz.prog.leadsTo Tryz.f5 = [19, 18, 6, 6, 8, 6, 11] := by kernel_rfl
theorem ip5 : inP Tryz.f5 = false := by kernel_rfl
theorem ed6 : Tryz.prog.leadsTo Tryz.f6 = [20, 21] := by kernel_rfl
theorem ip6 : inP Tryz.f6 = false := by kernel_rfl
theorem ed7 : Tryz.prog.leadsTo Tryz.f7 = [20, 22, 23, 12, 24, 25, 26, 27, 28, 29, 30, 27] := by kernel_rfl
theorem ip7 : inP Tryz.f7 = false := by kernel_rfl
theorem ed8 : Tryz.prog.leadsTo Tryz.f8 = [20, 31] := by kernel_rfl
theorem ip8 : inP Tryz.f8 = false := by kernel_rfl
theorem ed9 : Tryz.prog.leadsTo Tryz.f9 = [28, 32] := by kernel_rfl
theorem ip9 : inP Tryz.f9 = false := by kernel_rfl
theorem ed10 : Tryz.prog.leadsTo Tryz.f10 = [20, 33, 34] := by kernel_rfl
theorem ip10 : inP Tryz.f10 = false := by kernel_rfl
theorem ed11 : Tryz.prog.leadsTo Tryz.f11 = [28, 35] := by kernel_rfl
theorem ip11 : inP Tryz.f11 = false := by kernel_rfl
theorem ed12 : Tryz.prog.leadsTo Tryz.f12 = [36] := by kernel_rfl
theorem ip12 : inP Tryz.f12 = false := by kernel_rfl
theorem ed13 : Tryz.prog.leadsTo Tryz.f13 = [36] := by kernel_rfl
theorem ip13 : inP Tryz.f13 = false := by kernel_rfl
theorem ed14 : Tryz.prog.leadsTo Tryz.f14 = [37, 38] := by kernel_rfl
theorem ip14 : inP Tryz.f14 = false := by kernel_rfl
theorem ed15 : Tryz.prog.leadsTo Tryz.f15 = [20, 39] := by kernel_rfl
theorem ip15 : inP Tryz.f15 = false := by kernel_rfl
theorem ed16 : Tryz.prog.leadsTo Tryz.f16 = [37, 40] := by kernel_rfl
theorem ip16 : inP Tryz.f16 = false := by kernel_rfl
theorem ed17 : Tryz.prog.leadsTo Tryz.f17 = [41] := by kernel_rfl
theorem ip17 : inP Tryz.f17 = false := by kernel_rfl
theorem ed18 : Tryz.prog.leadsTo Tryz.f18 = [42, 43, 44, 45, 46, 47] := by kernel_rfl
theorem ip18 : inP Tryz.f18 = false := by kernel_rfl
theorem ed19 : Tryz.prog.leadsTo Tryz.f19 = [] := by kernel_rfl
theorem ip19 : inP Tryz.f19 = false := by kernel_rfl
theorem ed20 : Tryz.prog.leadsTo Tryz.f20 = [] := by kernel_rfl
theorem ip20 : inP Tryz.f20 = false := by kernel_rfl
theorem ed21 : Tryz.prog.leadsTo Tryz.f21 = [26, 48, 49, 25, 36, 50, 51, 52, 30, 28, 29, 53, 54, 56, 55] := by kernel_rfl
theorem ip21 : inP Tryz.f21 = false := by kernel_rfl
theorem ed22 : Tryz.prog.leadsTo Tryz.f22 = [58, 60, 61, 59] := by kernel_rfl
theorem ip22 : inP Tryz.f22 = false := by kernel_rfl
theorem ed23 : Tryz.prog.leadsTo Tryz.f23 = [31] := by kernel_rfl
theorem ip23 : inP Tryz.f23 = false := by kernel_rfl
theorem ed24 : Tryz.prog.leadsTo Tryz.f24 = [62] := by kernel_rfl
theorem ip24 : inP Tryz.f24 = false := by kernel_rfl
theorem ed25 : Tryz.prog.leadsTo Tryz.f25 = [36, 63, 24, 45] := by kernel_rfl
theorem ip25 : inP Tryz.f25 = false := by kernel_rfl
theorem ed26 : Tryz.prog.leadsTo Tryz.f26 = [36, 64, 55] := by kernel_rfl
theorem ip26 : inP Tryz.f26 = false := by kernel_rfl
theorem ed27 : Tryz.prog.leadsTo Tryz.f27 = [8, 66, 67, 68, 69] := by kernel_rfl
theorem ip27 : inP Tryz.f27 = false := by kernel_rfl
theorem ed28 : Tryz.prog.leadsTo Tryz.f28 = [20] := by kernel_rfl
theorem ip28 : inP Tryz.f28 = false := by kernel_rfl
theorem ed29 : Tryz.prog.leadsTo Tryz.f29 = [70, 71] := by kernel_rfl
theorem ip29 : inP Tryz.f29 = false := by kernel_rfl
theorem ed30 : Tryz.prog.leadsTo Tryz.f30 = [28, 72, 73, 55] := by kernel_rfl
theorem ip30 : inP Tryz.f30 = false := by kernel_rfl
theorem ed31 : Tryz.prog.leadsTo Tryz.f31 = [58] := by kernel_rfl
theorem ip31 : inP Tryz.f31 = false := by kernel_rfl
theorem ed32 : Tryz.prog.leadsTo Tryz.f32 = [70, 75] := by kernel_rfl
theorem ip32 : inP Tryz.f32 = false := by kernel_rfl
theorem ed33 : Tryz.prog.leadsTo Tryz.f33 = [] := by kernel_rfl
theorem ip33 : inP Tryz.f33 = false := by kernel_rfl
theorem ed34 : Tryz.prog.leadsTo Tryz.f34 = [] := by kernel_rfl
theorem ip34 : inP Tryz.f34 = false := by kernel_rfl
theorem ed35 : Tryz.prog.leadsTo Tryz.f35 = [76, 75, 34] := by kernel_rfl
theorem ip35 : inP Tryz.f35 = false := by kernel_rfl
theorem ed36 : Tryz.prog.leadsTo Tryz.f36 = [20] := by kernel_rfl
theorem ip36 : inP Tryz.f36 = false := by kernel_rfl
theorem ed37 : Tryz.prog.leadsTo Tryz.f37 = [36] := by kernel_rfl
theorem ip37 : inP Tryz.f37 = false := by kernel_rfl
theorem ed38 : Tryz.prog.leadsTo Tryz.f38 = [77] := by kernel_rfl
theorem ip38 : inP Tryz.f38 = false := by kernel_rfl
theorem ed39 : Tryz.prog.leadsTo Tryz.f39 = [78, 79, 80] := by kernel_rfl
theorem ip39 : inP Tryz.f39 = false := by kernel_rfl
theorem ed40 : Tryz.prog.leadsTo Tryz.f40 = [81] := by kernel_rfl
theorem ip40 : inP Tryz.f40 = false := by kernel_rfl
theorem ed41 : Tryz.prog.leadsTo Tryz.f41 = [] := by kernel_rfl
theorem ip41 : inP Tryz.f41 = false := by kernel_rfl
theorem ed42 : Tryz.prog.leadsTo Tryz.f42 = [83, 82] := by kernel_rfl
theorem ip42 : inP Tryz.f42 = false := by kernel_rfl
theorem ed43 : Tryz.prog.leadsTo Tryz.f43 = [] := by kernel_rfl
theorem ip43 : inP Tryz.f43 = false := by kernel_rfl
theorem ed44 : Tryz.prog.leadsTo Tryz.f44 = [84] := by kernel_rfl
theorem ip44 : inP Tryz.f44 = false := by kernel_rfl
theorem ed45 : Tryz.prog.leadsTo Tryz.f45 = [83, 85] := by kernel_rfl
theorem ip45 : inP Tryz.f45 = false := by kernel_rfl
theorem ed46 : Tryz.prog.leadsTo Tryz.f46 = [] := by kernel_rfl
theorem ip46 : inP Tryz.f46 = false := by kernel_rfl
theorem ed47 : Tryz.prog.leadsTo Tryz.f47 = [] := by kernel_rfl
theorem ip47 : inP Tryz.f47 = false := by kernel_rfl
theorem ed48 : Tryz.prog.leadsTo Tryz.f48 = [66, 67, 68, 69] := by kernel_rfl
theorem ip48 : inP Tryz.f48 = false := by kernel_rfl
theorem ed49 : Tryz.prog.leadsTo Tryz.f49 = [36, 63] := by kernel_rfl
theorem ip49 : inP Tryz.f49 = false := by kernel_rfl
theorem ed50 : Tryz.prog.leadsTo Tryz.f50 = [86] := by kernel_rfl
theorem ip50 : inP Tryz.f50 = false := by kernel_rfl
theorem ed51 : Tryz.prog.leadsTo Tryz.f51 = [22] := by kernel_rfl
theorem ip51 : inP Tryz.f51 = false := by kernel_rfl
theorem ed52 : Tryz.prog.leadsTo Tryz.f52 = [28, 87, 28, 32, 28, 72, 88] := by kernel_rfl
theorem ip52 : inP Tryz.f52 = false := by kernel_rfl
theorem ed53 : Tryz.prog.leadsTo Tryz.f53 = [37, 88, 89, 55] := by kernel_rfl
theorem ip53 : inP Tryz.f53 = false := by kernel_rfl
theorem ed54 : Tryz.prog.leadsTo Tryz.f54 = [36, 91, 55] := by kernel_rfl
theorem ip54 : inP Tryz.f54 = false := by kernel_rfl
theorem ed55 : Tryz.prog.leadsTo Tryz.f55 = [37, 95] := by kernel_rfl
theorem ip55 : inP Tryz.f55 = false := by kernel_rfl
theorem ed56 : Tryz.prog.leadsTo Tryz.f56 = [57] := by kernel_rfl
theorem ip56 : inP Tryz.f56 = false := by kernel_rfl
theorem ed57 : Tryz.prog.leadsTo Tryz.f57 = [96, 97, 98] := by kernel_rfl
theorem ip57 : inP Tryz.f57 = false := by kernel_rfl
theorem ed58 : Tryz.prog.leadsTo Tryz.f58 = [] := by kernel_rfl
theorem ip58 : inP Tryz.f58 = false := by kernel_rfl
theorem ed59 : Tryz.prog.leadsTo Tryz.f59 = [99] := by kernel_rfl
theorem ip59 : inP Tryz.f59 = false := by kernel_rfl
theorem ed60 : Tryz.prog.leadsTo Tryz.f60 = [] := by kernel_rfl
theorem ip60 : inP Tryz.f60 = false := by kernel_rfl
theorem ed61 : Tryz.prog.leadsTo Tryz.f61 = [100, 100] := by kernel_rfl
theorem ip61 : inP Tryz.f61 = false := by kernel_rfl
theorem ed62 : Tryz.prog.leadsTo Tryz.f62 = [] := by kernel_rfl
theorem ip62 : inP Tryz.f62 = false := by kernel_rfl
theorem ed63 : Tryz.prog.leadsTo Tryz.f63 = [62, 101, 102, 103] := by kernel_rfl
theorem ip63 : inP Tryz.f63 = false := by kernel_rfl
theorem ed64 : Tryz.prog.leadsTo Tryz.f64 = [65] := by kernel_rfl
theorem ip64 : inP Tryz.f64 = false := by kernel_rfl
theorem ed65 : Tryz.prog.leadsTo Tryz.f65 = [96, 105, 104, 106, 81, 107, 108, 109] := by kernel_rfl
theorem ip65 : inP Tryz.f65 = false := by kernel_rfl
theorem ed66 : Tryz.prog.leadsTo Tryz.f66 = [110, 111, 112] := by kernel_rfl
theorem ip66 : inP Tryz.f66 = false := by kernel_rfl
theorem ed67 : Tryz.prog.leadsTo Tryz.f67 = [113, 28, 72, 114, 88] := by kernel_rfl
theorem ip67 : inP Tryz.f67 = false := by kernel_rfl
theorem ed68 : Tryz.prog.leadsTo Tryz.f68 = [115, 116, 88] := by kernel_rfl
theorem ip68 : inP Tryz.f68 = false := by kernel_rfl
theorem ed69 : Tryz.prog.leadsTo Tryz.f69 = [117, 55] := by kernel_rfl
theorem ip69 : inP Tryz.f69 = false := by kernel_rfl
theorem ed70 : Tryz.prog.leadsTo Tryz.f70 = [76] := by kernel_rfl
theorem ip70 : inP Tryz.f70 = false := by kernel_rfl
theorem ed71 : Tryz.prog.leadsTo Tryz.f71 = [] := by kernel_rfl
theorem ip71 : inP Tryz.f71 = false := by kernel_rfl
theorem ed72 : Tryz.prog.leadsTo Tryz.f72 = [70] := by kernel_rfl
theorem ip72 : inP Tryz.f72 = false := by kernel_rfl
theorem ed73 : Tryz.prog.leadsTo Tryz.f73 = [74] := by kernel_rfl
theorem ip73 : inP Tryz.f73 = false := by kernel_rfl
theorem ed74 : Tryz.prog.leadsTo Tryz.f74 = [96, 119, 108, 120, 81, 109] := by kernel_rfl
theorem ip74 : inP Tryz.f74 = false := by kernel_rfl
theorem ed75 : Tryz.prog.leadsTo Tryz.f75 = [121, 119] := by kernel_rfl
theorem ip75 : inP Tryz.f75 = false := by kernel_rfl
theorem ed76 : Tryz.prog.leadsTo Tryz.f76 = [] := by kernel_rfl
theorem ip76 : inP Tryz.f76 = false := by kernel_rfl
theorem ed77 : Tryz.prog.leadsTo Tryz.f77 = [122, 123, 124, 125, 126, 127] := by kernel_rfl
theorem ip77 : inP Tryz.f77 = false := by kernel_rfl
theorem ed78 : Tryz.prog.leadsTo Tryz.f78 = [] := by kernel_rfl
theorem ip78 : inP Tryz.f78 = false := by kernel_rfl
theorem ed79 : Tryz.prog.leadsTo Tryz.f79 = [128] := by kernel_rfl
theorem ip79 : inP Tryz.f79 = false := by kernel_rfl
theorem ed80 : Tryz.prog.leadsTo Tryz.f80 = [78, 129] := by kernel_rfl
theorem ip80 : inP Tryz.f80 = false := by kernel_rfl
theorem ed81 : Tryz.prog.leadsTo Tryz.f81 = [130, 131, 132, 133, 134] := by kernel_rfl
theorem ip81 : inP Tryz.f81 = false := by kernel_rfl
theorem ed82 : Tryz.prog.leadsTo Tryz.f82 = [135] := by kernel_rfl
theorem ip82 : inP Tryz.f82 = false := by kernel_rfl
theorem ed83 : Tryz.prog.leadsTo Tryz.f83 = [] := by kernel_rfl
theorem ip83 : inP Tryz.f83 = false := by kernel_rfl
theorem ed84 : Tryz.prog.leadsTo Tryz.f84 = [] := by kernel_rfl
theorem ip84 : inP Tryz.f84 = false := by kernel_rfl
theorem ed85 : Tryz.prog.leadsTo Tryz.f85 = [82, 136, 137, 138, 139] := by kernel_rfl
theorem ip85 : inP Tryz.f85 = false := by kernel_rfl
theorem ed86 : Tryz.prog.leadsTo Tryz.f86 = [62] := by kernel_rfl
theorem ip86 : inP Tryz.f86 = false := by kernel_rfl
theorem ed87 : Tryz.prog.leadsTo Tryz.f87 = [76, 70, 121, 75] := by kernel_rfl
theorem ip87 : inP Tryz.f87 = false := by kernel_rfl
theorem ed88 : Tryz.prog.leadsTo Tryz.f88 = [] := by kernel_rfl
theorem ip88 : inP Tryz.f88 = false := by kernel_rfl
theorem ed89 : Tryz.prog.leadsTo Tryz.f89 = [90] := by kernel_rfl
theorem ip89 : inP Tryz.f89 = false := by kernel_rfl
theorem ed90 : Tryz.prog.leadsTo Tryz.f90 = [96, 140, 104, 109] := by kernel_rfl
theorem ip90 : inP Tryz.f90 = false := by kernel_rfl
theorem ed91 : Tryz.prog.leadsTo Tryz.f91 = [40, 92, 93, 94] := by kernel_rfl
theorem ip91 : inP Tryz.f91 = false := by kernel_rfl
theorem ed92 : Tryz.prog.leadsTo Tryz.f92 = [141, 142, 143, 145, 144] := by kernel_rfl
theorem ip92 : inP Tryz.f92 = false := by kernel_rfl
theorem ed93 : Tryz.prog.leadsTo Tryz.f93 = [141, 142, 143, 145, 144] := by kernel_rfl
theorem ip93 : inP Tryz.f93 = false := by kernel_rfl
theorem ed94 : Tryz.prog.leadsTo Tryz.f94 = [96, 146, 98] := by kernel_rfl
theorem ip94 : inP Tryz.f94 = false := by kernel_rfl
theorem ed95 : Tryz.prog.leadsTo Tryz.f95 = [147, 88, 88, 148, 88, 149, 88, 40] := by kernel_rfl
theorem ip95 : inP Tryz.f95 = false := by kernel_rfl
theorem ed96 : Tryz.prog.leadsTo Tryz.f96 = [81] := by kernel_rfl
theorem ip96 : inP Tryz.f96 = false := by kernel_rfl
theorem ed97 : Tryz.prog.leadsTo Tryz.f97 = [150, 143, 151, 133, 152, 153, 154] := by kernel_rfl
theorem ip97 : inP Tryz.f97 = false := by kernel_rfl
theorem ed98 : Tryz.prog.leadsTo Tryz.f98 = [104, 109, 96] := by kernel_rfl
theorem ip98 : inP Tryz.f98 = false := by kernel_rfl
theorem ed99 : Tryz.prog.leadsTo Tryz.f99 = [] := by kernel_rfl
theorem ip99 : inP Tryz.f99 = false := by kernel_rfl
theorem ed100 : Tryz.prog.leadsTo Tryz.f100 = [58] := by kernel_rfl
theorem ip100 : inP Tryz.f100 = false := by kernel_rfl
theorem ed101 : Tryz.prog.leadsTo Tryz.f101 = [] := by kernel_rfl
theorem ip101 : inP Tryz.f101 = false := by kernel_rfl
theorem ed102 : Tryz.prog.leadsTo Tryz.f102 = [62, 156, 155] := by kernel_rfl
theorem ip102 : inP Tryz.f102 = false := by kernel_rfl
theorem ed103 : Tryz.prog.leadsTo Tryz.f103 = [33] := by kernel_rfl
theorem ip103 : inP Tryz.f103 = false := by kernel_rfl
theorem ed104 : Tryz.prog.leadsTo Tryz.f104 = [] := by kernel_rfl
theorem ip104 : inP Tryz.f104 = false := by kernel_rfl
theorem ed105 : Tryz.prog.leadsTo Tryz.f105 = [157, 158, 159, 160, 161, 162, 163] := by kernel_rfl
theorem ip105 : inP Tryz.f105 = false := by kernel_rfl
theorem ed106 : Tryz.prog.leadsTo Tryz.f106 = [138, 81, 139, 165, 164, 120, 166, 167, 168, 169, 170, 167, 172, 171] := by kernel_rfl
theorem ip106 : inP Tryz.f106 = false := by kernel_rfl
theorem ed107 : Tryz.prog.leadsTo Tryz.f107 = [173, 169, 174] := by kernel_rfl
theorem ip107 : inP Tryz.f107 = false := by kernel_rfl
theorem ed108 : Tryz.prog.leadsTo Tryz.f108 = [175, 104] := by kernel_rfl
theorem ip108 : inP Tryz.f108 = false := by kernel_rfl
theorem ed109 : Tryz.prog.leadsTo Tryz.f109 = [106, 96] := by kernel_rfl
theorem ip109 : inP Tryz.f109 = false := by kernel_rfl
end Go.Proofs.YtjdebeibhnjbgaaGreat

/- A table of calls; no conditions. -/
namespace Go.Proofs.YtjdebeibhnjbgaaGreat
open Go Go.Proofs.Rn
theorem ed110 : Tryz.prog.leadsTo Tryz.f110 = [176, 177] := by kernel_rfl
theorem ip110 : inP Tryz.f110 = false := by kernel_rfl
theorem ed111 : Tryz.prog.leadsTo Tryz.f111 = [110] := by kernel_rfl
theorem ip111 : inP Tryz.f111 = false := by kernel_rfl
theorem ed112 : Tryz.prog.leadsTo Tryz.f112 = [178, 55] := by kernel_rfl
theorem ip112 : inP Tryz.f112 = false := by kernel_rfl
theorem ed113 : Tryz.prog.leadsTo Tryz.f113 = [181, 180] := by kernel_rfl
theorem ip113 : inP Tryz.f113 = false := by kernel_rfl
theorem ed114 : Tryz.prog.leadsTo Tryz.f114 = [70, 71, 34] := by kernel_rfl
theorem ip114 : inP Tryz.f114 = false := by kernel_rfl
theorem ed115 : Tryz.prog.leadsTo Tryz.f115 = [183, 182] := by kernel_rfl
theorem ip115 : inP Tryz.f115 = false := by kernel_rfl
theorem ed116 : Tryz.prog.leadsTo Tryz.f116 = [78, 184] := by kernel_rfl
theorem ip116 : inP Tryz.f116 = false := by kernel_rfl
theorem ed117 : Tryz.prog.leadsTo Tryz.f117 = [118] := by kernel_rfl
theorem ip117 : inP Tryz.f117 = false := by kernel_rfl
theorem ed118 : Tryz.prog.leadsTo Tryz.f118 = [96, 121, 108, 109] := by kernel_rfl
theorem ip118 : inP Tryz.f118 = false := by kernel_rfl
theorem ed119 : Tryz.prog.leadsTo Tryz.f119 = [185, 186, 187, 186, 188, 189, 186, 190, 191, 192] := by kernel_rfl
theorem ip119 : inP Tryz.f119 = false := by kernel_rfl
theorem ed120 : Tryz.prog.leadsTo Tryz.f120 = [] := by kernel_rfl
theorem ip120 : inP Tryz.f120 = false := by kernel_rfl
theorem ed121 : Tryz.prog.leadsTo Tryz.f121 = [192, 187, 193, 193, 194, 195, 193, 196, 197] := by kernel_rfl
theorem ip121 : inP Tryz.f121 = false := by kernel_rfl
theorem ed122 : Tryz.prog.leadsTo Tryz.f122 = [] := by kernel_rfl
theorem ip122 : inP Tryz.f122 = false := by kernel_rfl
theorem ed123 : Tryz.prog.leadsTo Tryz.f123 = [198, 199, 200] := by kernel_rfl
theorem ip123 : inP Tryz.f123 = false := by kernel_rfl
theorem ed124 : Tryz.prog.leadsTo Tryz.f124 = [128] := by kernel_rfl
theorem ip124 : inP Tryz.f124 = false := by kernel_rfl
theorem ed125 : Tryz.prog.leadsTo Tryz.f125 = [201, 203, 202] := by kernel_rfl
theorem ip125 : inP Tryz.f125 = false := by kernel_rfl
theorem ed126 : Tryz.prog.leadsTo Tryz.f126 = [204, 205] := by kernel_rfl
theorem ip126 : inP Tryz.f126 = false := by kernel_rfl
theorem ed127 : Tryz.prog.leadsTo Tryz.f127 = [206, 207, 208] := by kernel_rfl
theorem ip127 : inP Tryz.f127 = false := by kernel_rfl
theorem ed128 : Tryz.prog.leadsTo Tryz.f128 = [] := by kernel_rfl
theorem ip128 : inP Tryz.f128 = true := by kernel_rfl
theorem ed129 : Tryz.prog.leadsTo Tryz.f129 = [] := by kernel_rfl
theorem ip129 : inP Tryz.f129 = false := by kernel_rfl
theorem ed130 : Tryz.prog.leadsTo Tryz.f130 = [] := by kernel_rfl
theorem ip130 : inP Tryz.f130 = false := by kernel_rfl
theorem ed131 : Tryz.prog.leadsTo Tryz.f131 = [209] := by kernel_rfl
theorem ip131 : inP Tryz.f131 = false := by kernel_rfl
theorem ed132 : Tryz.prog.leadsTo Tryz.f132 = [210] := by kernel_rfl
theorem ip132 : inP Tryz.f132 = false := by kernel_rfl
theorem ed133 : Tryz.prog.leadsTo Tryz.f133 = [211, 212] := by kernel_rfl
theorem ip133 : inP Tryz.f133 = false := by kernel_rfl
theorem ed134 : Tryz.prog.leadsTo Tryz.f134 = [] := by kernel_rfl
theorem ip134 : inP Tryz.f134 = false := by kernel_rfl
theorem ed135 : Tryz.prog.leadsTo Tryz.f135 = [141] := by kernel_rfl
theorem ip135 : inP Tryz.f135 = false := by kernel_rfl
theorem ed136 : Tryz.prog.leadsTo Tryz.f136 = [135, 213, 134, 132, 132, 214, 131, 210, 215] := by kernel_rfl
theorem ip136 : inP Tryz.f136 = false := by kernel_rfl
theorem ed137 : Tryz.prog.leadsTo Tryz.f137 = [216, 217, 218, 207] := by kernel_rfl
theorem ip137 : inP Tryz.f137 = false := by kernel_rfl
theorem ed138 : Tryz.prog.leadsTo Tryz.f138 = [157, 210, 219, 220] := by kernel_rfl
theorem ip138 : inP Tryz.f138 = false := by kernel_rfl
theorem ed139 : Tryz.prog.leadsTo Tryz.f139 = [221, 185, 186, 222, 186, 223, 225, 226, 227, 228, 191, 229] := by kernel_rfl
theorem ip139 : inP Tryz.f139 = false := by kernel_rfl
theorem ed140 : Tryz.prog.leadsTo Tryz.f140 = [150, 230, 231, 232, 233, 154] := by kernel_rfl
theorem ip140 : inP Tryz.f140 = false := by kernel_rfl
theorem ed141 : Tryz.prog.leadsTo Tryz.f141 = [145, 144, 234] := by kernel_rfl
theorem ip141 : inP Tryz.f141 = false := by kernel_rfl
theorem ed142 : Tryz.prog.leadsTo Tryz.f142 = [] := by kernel_rfl
theorem ip142 : inP Tryz.f142 = false := by kernel_rfl
theorem ed143 : Tryz.prog.leadsTo Tryz.f143 = [235] := by kernel_rfl
theorem ip143 : inP Tryz.f143 = false := by kernel_rfl
theorem ed144 : Tryz.prog.leadsTo Tryz.f144 = [] := by kernel_rfl
theorem ip144 : inP Tryz.f144 = false := by kernel_rfl
theorem ed145 : Tryz.prog.leadsTo Tryz.f145 = [142] := by kernel_rfl
theorem ip145 : inP Tryz.f145 = false := by kernel_rfl
theorem ed146 : Tryz.prog.leadsTo Tryz.f146 = [150, 236, 234, 230, 237, 134, 239, 133, 238, 240, 241] := by kernel_rfl
theorem ip146 : inP Tryz.f146 = false := by kernel_rfl
theorem ed147 : Tryz.prog.leadsTo Tryz.f147 = [58, 242, 61] := by kernel_rfl
theorem ip147 : inP Tryz.f147 = false := by kernel_rfl
theorem ed148 : Tryz.prog.leadsTo Tryz.f148 = [] := by kernel_rfl
theorem ip148 : inP Tryz.f148 = false := by kernel_rfl
theorem ed149 : Tryz.prog.leadsTo Tryz.f149 = [] := by kernel_rfl
theorem ip149 : inP Tryz.f149 = false := by kernel_rfl
theorem ed150 : Tryz.prog.leadsTo Tryz.f150 = [157] := by kernel_rfl
theorem ip150 : inP Tryz.f150 = false := by kernel_rfl
theorem ed151 : Tryz.prog.leadsTo Tryz.f151 = [243] := by kernel_rfl
theorem ip151 : inP Tryz.f151 = false := by kernel_rfl
theorem ed152 : Tryz.prog.leadsTo Tryz.f152 = [131] := by kernel_rfl
theorem ip152 : inP Tryz.f152 = false := by kernel_rfl
theorem ed153 : Tryz.prog.leadsTo Tryz.f153 = [151, 132, 210, 244, 152, 245, 244, 219, 152] := by kernel_rfl
theorem ip153 : inP Tryz.f153 = false := by kernel_rfl
theorem ed154 : Tryz.prog.leadsTo Tryz.f154 = [163, 157] := by kernel_rfl
theorem ip154 : inP Tryz.f154 = false := by kernel_rfl
theorem ed155 : Tryz.prog.leadsTo Tryz.f155 = [246, 247] := by kernel_rfl
theorem ip155 : inP Tryz.f155 = false := by kernel_rfl
theorem ed156 : Tryz.prog.leadsTo Tryz.f156 = [248] := by kernel_rfl
theorem ip156 : inP Tryz.f156 = false := by kernel_rfl
theorem ed157 : Tryz.prog.leadsTo Tryz.f157 = [130] := by kernel_rfl
theorem ip157 : inP Tryz.f157 = false := by kernel_rfl
theorem ed158 : Tryz.prog.leadsTo Tryz.f158 = [143] := by kernel_rfl
theorem ip158 : inP Tryz.f158 = false := by kernel_rfl
theorem ed159 : Tryz.prog.leadsTo Tryz.f159 = [131, 249, 250, 239, 131, 133, 214, 152] := by kernel_rfl
theorem ip159 : inP Tryz.f159 = false := by kernel_rfl
theorem ed160 : Tryz.prog.leadsTo Tryz.f160 = [252, 251] := by kernel_rfl
theorem ip160 : inP Tryz.f160 = false := by kernel_rfl
theorem ed161 : Tryz.prog.leadsTo Tryz.f161 = [253] := by kernel_rfl
theorem ip161 : inP Tryz.f161 = false := by kernel_rfl
theorem ed162 : Tryz.prog.leadsTo Tryz.f162 = [254, 232] := by kernel_rfl
theorem ip162 : inP Tryz.f162 = false := by kernel_rfl
theorem ed163 : Tryz.prog.leadsTo Tryz.f163 = [] := by kernel_rfl
theorem ip163 : inP Tryz.f163 = false := by kernel_rfl
theorem ed164 : Tryz.prog.leadsTo Tryz.f164 = [] := by kernel_rfl
theorem ip164 : inP Tryz.f164 = false := by kernel_rfl
theorem ed165 : Tryz.prog.leadsTo Tryz.f165 = [] := by kernel_rfl
theorem ip165 : inP Tryz.f165 = false := by kernel_rfl
theorem ed166 : Tryz.prog.leadsTo Tryz.f166 = [255, 256, 164, 120, 120] := by kernel_rfl
theorem ip166 : inP Tryz.f166 = false := by kernel_rfl
theorem ed167 : Tryz.prog.leadsTo Tryz.f167 = [] := by kernel_rfl
theorem ip167 : inP Tryz.f167 = false := by kernel_rfl
theorem ed168 : Tryz.prog.leadsTo Tryz.f168 = [122] := by kernel_rfl
theorem ip168 : inP Tryz.f168 = false := by kernel_rfl
theorem ed169 : Tryz.prog.leadsTo Tryz.f169 = [122, 257] := by kernel_rfl
theorem ip169 : inP Tryz.f169 = false := by kernel_rfl
theorem ed170 : Tryz.prog.leadsTo Tryz.f170 = [122] := by kernel_rfl
theorem ip170 : inP Tryz.f170 = false := by kernel_rfl
theorem ed171 : Tryz.prog.leadsTo Tryz.f171 = [157, 132, 245, 258, 260, 259, 215] := by kernel_rfl
theorem ip171 : inP Tryz.f171 = false := by kernel_rfl
theorem ed172 : Tryz.prog.leadsTo Tryz.f172 = [261, 262] := by kernel_rfl
theorem ip172 : inP Tryz.f172 = false := by kernel_rfl
theorem ed173 : Tryz.prog.leadsTo Tryz.f173 = [121] := by kernel_rfl
theorem ip173 : inP Tryz.f173 = false := by kernel_rfl
theorem ed174 : Tryz.prog.leadsTo Tryz.f174 = [122, 169, 263] := by kernel_rfl
theorem ip174 : inP Tryz.f174 = false := by kernel_rfl
theorem ed175 : Tryz.prog.leadsTo Tryz.f175 = [150, 237, 241] := by kernel_rfl
theorem ip175 : inP Tryz.f175 = false := by kernel_rfl
theorem ed176 : Tryz.prog.leadsTo Tryz.f176 = [31] := by kernel_rfl
theorem ip176 : inP Tryz.f176 = false := by kernel_rfl
theorem ed177 : Tryz.prog.leadsTo Tryz.f177 = [221, 185, 264, 186, 265, 191, 266] := by kernel_rfl
theorem ip177 : inP Tryz.f177 = false := by kernel_rfl
theorem ed178 : Tryz.prog.leadsTo Tryz.f178 = [179] := by kernel_rfl
theorem ip178 : inP Tryz.f178 = false := by kernel_rfl
theorem ed179 : Tryz.prog.leadsTo Tryz.f179 = [96, 139, 267, 104, 109] := by kernel_rfl
theorem ip179 : inP Tryz.f179 = false := by kernel_rfl
theorem ed180 : Tryz.prog.leadsTo Tryz.f180 = [] := by kernel_rfl
theorem ip180 : inP Tryz.f180 = false := by kernel_rfl
theorem ed181 : Tryz.prog.leadsTo Tryz.f181 = [] := by kernel_rfl
theorem ip181 : inP Tryz.f181 = false := by kernel_rfl
theorem ed182 : Tryz.prog.leadsTo Tryz.f182 = [] := by kernel_rfl
theorem ip182 : inP Tryz.f182 = false := by kernel_rfl
theorem ed183 : Tryz.prog.leadsTo Tryz.f183 = [] := by kernel_rfl
theorem ip183 : inP Tryz.f183 = false := by kernel_rfl
theorem ed184 : Tryz.prog.leadsTo Tryz.f184 = [78] := by kernel_rfl
theorem ip184 : inP Tryz.f184 = false := by kernel_rfl
theorem ed185 : Tryz.prog.leadsTo Tryz.f185 = [] := by kernel_rfl
theorem ip185 : inP Tryz.f185 = false := by kernel_rfl
theorem ed186 : Tryz.prog.leadsTo Tryz.f186 = [268] := by kernel_rfl
theorem ip186 : inP Tryz.f186 = false := by kernel_rfl
theorem ed187 : Tryz.prog.leadsTo Tryz.f187 = [] := by kernel_rfl
theorem ip187 : inP Tryz.f187 = false := by kernel_rfl
theorem ed188 : Tryz.prog.leadsTo Tryz.f188 = [190, 186, 186, 186, 224, 269, 270] := by kernel_rfl
theorem ip188 : inP Tryz.f188 = false := by kernel_rfl
theorem ed189 : Tryz.prog.leadsTo Tryz.f189 = [271, 224, 272, 270] := by kernel_rfl
theorem ip189 : inP Tryz.f189 = false := by kernel_rfl
theorem ed190 : Tryz.prog.leadsTo Tryz.f190 = [268] := by kernel_rfl
theorem ip190 : inP Tryz.f190 = false := by kernel_rfl
theorem ed191 : Tryz.prog.leadsTo Tryz.f191 = [] := by kernel_rfl
theorem ip191 : inP Tryz.f191 = false := by kernel_rfl
theorem ed192 : Tryz.prog.leadsTo Tryz.f192 = [187, 274, 273, 269, 272] := by kernel_rfl
theorem ip192 : inP Tryz.f192 = false := by kernel_rfl
theorem ed193 : Tryz.prog.leadsTo Tryz.f193 = [275] := by kernel_rfl
theorem ip193 : inP Tryz.f193 = false := by kernel_rfl
theorem ed194 : Tryz.prog.leadsTo Tryz.f194 = [196, 193, 193] := by kernel_rfl
theorem ip194 : inP Tryz.f194 = false := by kernel_rfl
theorem ed195 : Tryz.prog.leadsTo Tryz.f195 = [193, 193, 193] := by kernel_rfl
theorem ip195 : inP Tryz.f195 = false := by kernel_rfl
theorem ed196 : Tryz.prog.leadsTo Tryz.f196 = [275, 275] := by kernel_rfl
theorem ip196 : inP Tryz.f196 = false := by kernel_rfl
theorem ed197 : Tryz.prog.leadsTo Tryz.f197 = [33] := by kernel_rfl
theorem ip197 : inP Tryz.f197 = false := by kernel_rfl
theorem ed198 : Tryz.prog.leadsTo Tryz.f198 = [] := by kernel_rfl
theorem ip198 : inP Tryz.f198 = false := by kernel_rfl
theorem ed199 : Tryz.prog.leadsTo Tryz.f199 = [128] := by kernel_rfl
theorem ip199 : inP Tryz.f199 = false := by kernel_rfl
theorem ed200 : Tryz.prog.leadsTo Tryz.f200 = [128] := by kernel_rfl
theorem ip200 : inP Tryz.f200 = false := by kernel_rfl
theorem ed201 : Tryz.prog.leadsTo Tryz.f201 = [] := by kernel_rfl
theorem ip201 : inP Tryz.f201 = false := by kernel_rfl
theorem ed202 : Tryz.prog.leadsTo Tryz.f202 = [276, 217, 277] := by kernel_rfl
theorem ip202 : inP Tryz.f202 = false := by kernel_rfl
theorem ed203 : Tryz.prog.leadsTo Tryz.f203 = [201, 257, 278] := by kernel_rfl
theorem ip203 : inP Tryz.f203 = false := by kernel_rfl
theorem ed204 : Tryz.prog.leadsTo Tryz.f204 = [] := by kernel_rfl
theorem ip204 : inP Tryz.f204 = false := by kernel_rfl
theorem ed205 : Tryz.prog.leadsTo Tryz.f205 = [] := by kernel_rfl
theorem ip205 : inP Tryz.f205 = false := by kernel_rfl
theorem ed206 : Tryz.prog.leadsTo Tryz.f206 = [] := by kernel_rfl
theorem ip206 : inP Tryz.f206 = false := by kernel_rfl
theorem ed207 : Tryz.prog.leadsTo Tryz.f207 = [] := by kernel_rfl
theorem ip207 : inP Tryz.f207 = false := by kernel_rfl
theorem ed208 : Tryz.prog.leadsTo Tryz.f208 = [] := by kernel_rfl
theorem ip208 : inP Tryz.f208 = false := by kernel_rfl
theorem ed209 : Tryz.prog.leadsTo Tryz.f209 = [211, 279] := by kernel_rfl
theorem ip209 : inP Tryz.f209 = false := by kernel_rfl
theorem ed210 : Tryz.prog.leadsTo Tryz.f210 = [211, 280] := by kernel_rfl
theorem ip210 : inP Tryz.f210 = false := by kernel_rfl
theorem ed211 : Tryz.prog.leadsTo Tryz.f211 = [] := by kernel_rfl
theorem ip211 : inP Tryz.f211 = false := by kernel_rfl
theorem ed212 : Tryz.prog.leadsTo Tryz.f212 = [281] := by kernel_rfl
theorem ip212 : inP Tryz.f212 = false := by kernel_rfl
theorem ed213 : Tryz.prog.leadsTo Tryz.f213 = [282, 283, 280, 284, 285, 286] := by kernel_rfl
theorem ip213 : inP Tryz.f213 = false := by kernel_rfl
theorem ed214 : Tryz.prog.leadsTo Tryz.f214 = [133, 245] := by kernel_rfl
theorem ip214 : inP Tryz.f214 = false := by kernel_rfl
theorem ed215 : Tryz.prog.leadsTo Tryz.f215 = [133, 258] := by kernel_rfl
theorem ip215 : inP Tryz.f215 = false := by kernel_rfl
theorem ed216 : Tryz.prog.leadsTo Tryz.f216 = [] := by kernel_rfl
theorem ip216 : inP Tryz.f216 = false := by kernel_rfl
theorem ed217 : Tryz.prog.leadsTo Tryz.f217 = [287] := by kernel_rfl
theorem ip217 : inP Tryz.f217 = false := by kernel_rfl
theorem ed218 : Tryz.prog.leadsTo Tryz.f218 = [] := by kernel_rfl
theorem ip218 : inP Tryz.f218 = false := by kernel_rfl
theorem ed219 : Tryz.prog.leadsTo Tryz.f219 = [211, 288] := by kernel_rfl
theorem ip219 : inP Tryz.f219 = false := by kernel_rfl
end Go.Proofs.YtjdebeibhnjbgaaGreat

/- A table of calls; no conditions. -/
namespace Go.Proofs.YtjdebeibhnjbgaaGreat
open Go Go.Proofs.Rn
theorem ed220 : Tryz.prog.leadsTo Tryz.f220 = [290, 289] := by kernel_rfl
theorem ip220 : inP Tryz.f220 = false := by kernel_rfl
theorem ed221 : Tryz.prog.leadsTo Tryz.f221 = [291, 33] := by kernel_rfl
theorem ip221 : inP Tryz.f221 = false := by kernel_rfl
theorem ed222 : Tryz.prog.leadsTo Tryz.f222 = [216, 292, 186, 186, 188, 293, 186, 186, 189, 294, 224, 270] := by kernel_rfl
theorem ip222 : inP Tryz.f222 = false := by kernel_rfl
theorem ed223 : Tryz.prog.leadsTo Tryz.f223 = [224] := by kernel_rfl
theorem ip223 : inP Tryz.f223 = false := by kernel_rfl
theorem ed224 : Tryz.prog.leadsTo Tryz.f224 = [] := by kernel_rfl
theorem ip224 : inP Tryz.f224 = false := by kernel_rfl
theorem ed225 : Tryz.prog.leadsTo Tryz.f225 = [295, 186, 186, 224, 296, 270] := by kernel_rfl
theorem ip225 : inP Tryz.f225 = false := by kernel_rfl
theorem ed226 : Tryz.prog.leadsTo Tryz.f226 = [190, 186, 186, 186, 186, 186, 224, 276, 270] := by kernel_rfl
theorem ip226 : inP Tryz.f226 = false := by kernel_rfl
theorem ed227 : Tryz.prog.leadsTo Tryz.f227 = [297, 186, 186, 186, 186, 224, 298, 270] := by kernel_rfl
theorem ip227 : inP Tryz.f227 = false := by kernel_rfl
theorem ed228 : Tryz.prog.leadsTo Tryz.f228 = [207, 186, 186, 186, 299, 300, 224, 270] := by kernel_rfl
theorem ip228 : inP Tryz.f228 = false := by kernel_rfl
theorem ed229 : Tryz.prog.leadsTo Tryz.f229 = [202, 301, 293, 300, 123, 127, 302, 303] := by kernel_rfl
theorem ip229 : inP Tryz.f229 = false := by kernel_rfl
theorem ed230 : Tryz.prog.leadsTo Tryz.f230 = [245, 131] := by kernel_rfl
theorem ip230 : inP Tryz.f230 = false := by kernel_rfl
theorem ed231 : Tryz.prog.leadsTo Tryz.f231 = [304, 254] := by kernel_rfl
theorem ip231 : inP Tryz.f231 = false := by kernel_rfl
theorem ed232 : Tryz.prog.leadsTo Tryz.f232 = [305, 153] := by kernel_rfl
theorem ip232 : inP Tryz.f232 = false := by kernel_rfl
theorem ed233 : Tryz.prog.leadsTo Tryz.f233 = [244, 307, 306] := by kernel_rfl
theorem ip233 : inP Tryz.f233 = false := by kernel_rfl
theorem ed234 : Tryz.prog.leadsTo Tryz.f234 = [308] := by kernel_rfl
theorem ip234 : inP Tryz.f234 = false := by kernel_rfl
theorem ed235 : Tryz.prog.leadsTo Tryz.f235 = [309] := by kernel_rfl
theorem ip235 : inP Tryz.f235 = false := by kernel_rfl
theorem ed236 : Tryz.prog.leadsTo Tryz.f236 = [145, 145, 141, 141] := by kernel_rfl
theorem ip236 : inP Tryz.f236 = false := by kernel_rfl
theorem ed237 : Tryz.prog.leadsTo Tryz.f237 = [133, 132] := by kernel_rfl
theorem ip237 : inP Tryz.f237 = false := by kernel_rfl
theorem ed238 : Tryz.prog.leadsTo Tryz.f238 = [311, 310] := by kernel_rfl
theorem ip238 : inP Tryz.f238 = false := by kernel_rfl
theorem ed239 : Tryz.prog.leadsTo Tryz.f239 = [134, 313, 312] := by kernel_rfl
theorem ip239 : inP Tryz.f239 = false := by kernel_rfl
theorem ed240 : Tryz.prog.leadsTo Tryz.f240 = [141, 145, 193, 197] := by kernel_rfl
theorem ip240 : inP Tryz.f240 = false := by kernel_rfl
theorem ed241 : Tryz.prog.leadsTo Tryz.f241 = [314, 133, 232, 315, 154] := by kernel_rfl
theorem ip241 : inP Tryz.f241 = false := by kernel_rfl
theorem ed242 : Tryz.prog.leadsTo Tryz.f242 = [266, 193, 193, 316, 193, 316, 193, 193, 317, 316, 193, 193, 318, 317, 197, 262] := by kernel_rfl
theorem ip242 : inP Tryz.f242 = false := by kernel_rfl
theorem ed243 : Tryz.prog.leadsTo Tryz.f243 = [] := by kernel_rfl
theorem ip243 : inP Tryz.f243 = false := by kernel_rfl
theorem ed244 : Tryz.prog.leadsTo Tryz.f244 = [304] := by kernel_rfl
theorem ip244 : inP Tryz.f244 = false := by kernel_rfl
theorem ed245 : Tryz.prog.leadsTo Tryz.f245 = [319, 210, 320] := by kernel_rfl
theorem ip245 : inP Tryz.f245 = false := by kernel_rfl
theorem ed246 : Tryz.prog.leadsTo Tryz.f246 = [321] := by kernel_rfl
theorem ip246 : inP Tryz.f246 = false := by kernel_rfl
theorem ed247 : Tryz.prog.leadsTo Tryz.f247 = [323, 322] := by kernel_rfl
theorem ip247 : inP Tryz.f247 = false := by kernel_rfl
theorem ed248 : Tryz.prog.leadsTo Tryz.f248 = [] := by kernel_rfl
theorem ip248 : inP Tryz.f248 = false := by kernel_rfl
theorem ed249 : Tryz.prog.leadsTo Tryz.f249 = [324, 325, 326] := by kernel_rfl
theorem ip249 : inP Tryz.f249 = false := by kernel_rfl
theorem ed250 : Tryz.prog.leadsTo Tryz.f250 = [131, 131, 327, 259, 249, 328, 239, 133, 214, 152] := by kernel_rfl
theorem ip250 : inP Tryz.f250 = false := by kernel_rfl
theorem ed251 : Tryz.prog.leadsTo Tryz.f251 = [141, 329] := by kernel_rfl
theorem ip251 : inP Tryz.f251 = false := by kernel_rfl
theorem ed252 : Tryz.prog.leadsTo Tryz.f252 = [151] := by kernel_rfl
theorem ip252 : inP Tryz.f252 = false := by kernel_rfl
theorem ed253 : Tryz.prog.leadsTo Tryz.f253 = [289, 330] := by kernel_rfl
theorem ip253 : inP Tryz.f253 = false := by kernel_rfl
theorem ed254 : Tryz.prog.leadsTo Tryz.f254 = [304] := by kernel_rfl
theorem ip254 : inP Tryz.f254 = false := by kernel_rfl
theorem ed255 : Tryz.prog.leadsTo Tryz.f255 = [122, 119, 169, 331, 332, 333, 300] := by kernel_rfl
theorem ip255 : inP Tryz.f255 = false := by kernel_rfl
theorem ed256 : Tryz.prog.leadsTo Tryz.f256 = [] := by kernel_rfl
theorem ip256 : inP Tryz.f256 = false := by kernel_rfl
theorem ed257 : Tryz.prog.leadsTo Tryz.f257 = [334] := by kernel_rfl
theorem ip257 : inP Tryz.f257 = false := by kernel_rfl
theorem ed258 : Tryz.prog.leadsTo Tryz.f258 = [132, 320, 335, 210] := by kernel_rfl
theorem ip258 : inP Tryz.f258 = false := by kernel_rfl
theorem ed259 : Tryz.prog.leadsTo Tryz.f259 = [] := by kernel_rfl
theorem ip259 : inP Tryz.f259 = false := by kernel_rfl
theorem ed260 : Tryz.prog.leadsTo Tryz.f260 = [319, 336, 337, 286, 285, 338, 337] := by kernel_rfl
theorem ip260 : inP Tryz.f260 = false := by kernel_rfl
theorem ed261 : Tryz.prog.leadsTo Tryz.f261 = [339, 193, 340, 193, 341, 342, 343, 344, 197] := by kernel_rfl
theorem ip261 : inP Tryz.f261 = false := by kernel_rfl
theorem ed262 : Tryz.prog.leadsTo Tryz.f262 = [345] := by kernel_rfl
theorem ip262 : inP Tryz.f262 = false := by kernel_rfl
theorem ed263 : Tryz.prog.leadsTo Tryz.f263 = [204, 347, 346, 349] := by kernel_rfl
theorem ip263 : inP Tryz.f263 = false := by kernel_rfl
theorem ed264 : Tryz.prog.leadsTo Tryz.f264 = [186] := by kernel_rfl
theorem ip264 : inP Tryz.f264 = false := by kernel_rfl
theorem ed265 : Tryz.prog.leadsTo Tryz.f265 = [350, 186, 352, 351, 270, 186, 186, 350, 186, 186, 186, 186, 186, 186, 186, 352] := by kernel_rfl
theorem ip265 : inP Tryz.f265 = false := by kernel_rfl
theorem ed266 : Tryz.prog.leadsTo Tryz.f266 = [353, 353, 354, 355, 356] := by kernel_rfl
theorem ip266 : inP Tryz.f266 = false := by kernel_rfl
theorem ed267 : Tryz.prog.leadsTo Tryz.f267 = [157, 266, 131, 357, 358, 359, 163] := by kernel_rfl
theorem ip267 : inP Tryz.f267 = false := by kernel_rfl
theorem ed268 : Tryz.prog.leadsTo Tryz.f268 = [360, 270, 270, 270] := by kernel_rfl
theorem ip268 : inP Tryz.f268 = false := by kernel_rfl
theorem ed269 : Tryz.prog.leadsTo Tryz.f269 = [361] := by kernel_rfl
theorem ip269 : inP Tryz.f269 = false := by kernel_rfl
theorem ed270 : Tryz.prog.leadsTo Tryz.f270 = [] := by kernel_rfl
theorem ip270 : inP Tryz.f270 = false := by kernel_rfl
theorem ed271 : Tryz.prog.leadsTo Tryz.f271 = [186] := by kernel_rfl
theorem ip271 : inP Tryz.f271 = false := by kernel_rfl
theorem ed272 : Tryz.prog.leadsTo Tryz.f272 = [362, 362, 362, 362, 362, 362] := by kernel_rfl
theorem ip272 : inP Tryz.f272 = false := by kernel_rfl
theorem ed273 : Tryz.prog.leadsTo Tryz.f273 = [363, 364] := by kernel_rfl
theorem ip273 : inP Tryz.f273 = false := by kernel_rfl
theorem ed274 : Tryz.prog.leadsTo Tryz.f274 = [] := by kernel_rfl
theorem ip274 : inP Tryz.f274 = false := by kernel_rfl
theorem ed275 : Tryz.prog.leadsTo Tryz.f275 = [] := by kernel_rfl
theorem ip275 : inP Tryz.f275 = false := by kernel_rfl
theorem ed276 : Tryz.prog.leadsTo Tryz.f276 = [365, 366, 365, 367] := by kernel_rfl
theorem ip276 : inP Tryz.f276 = false := by kernel_rfl
theorem ed277 : Tryz.prog.leadsTo Tryz.f277 = [334, 368, 369, 370, 371] := by kernel_rfl
theorem ip277 : inP Tryz.f277 = false := by kernel_rfl
theorem ed278 : Tryz.prog.leadsTo Tryz.f278 = [334, 372, 373, 374] := by kernel_rfl
theorem ip278 : inP Tryz.f278 = false := by kernel_rfl
theorem ed279 : Tryz.prog.leadsTo Tryz.f279 = [375] := by kernel_rfl
theorem ip279 : inP Tryz.f279 = false := by kernel_rfl
theorem ed280 : Tryz.prog.leadsTo Tryz.f280 = [376, 377] := by kernel_rfl
theorem ip280 : inP Tryz.f280 = false := by kernel_rfl
theorem ed281 : Tryz.prog.leadsTo Tryz.f281 = [] := by kernel_rfl
theorem ip281 : inP Tryz.f281 = false := by kernel_rfl
theorem ed282 : Tryz.prog.leadsTo Tryz.f282 = [378, 379] := by kernel_rfl
theorem ip282 : inP Tryz.f282 = false := by kernel_rfl
theorem ed283 : Tryz.prog.leadsTo Tryz.f283 = [380, 381, 351] := by kernel_rfl
theorem ip283 : inP Tryz.f283 = false := by kernel_rfl
theorem ed284 : Tryz.prog.leadsTo Tryz.f284 = [381, 382, 383, 212, 286] := by kernel_rfl
theorem ip284 : inP Tryz.f284 = false := by kernel_rfl
theorem ed285 : Tryz.prog.leadsTo Tryz.f285 = [281, 212, 384] := by kernel_rfl
theorem ip285 : inP Tryz.f285 = false := by kernel_rfl
theorem ed286 : Tryz.prog.leadsTo Tryz.f286 = [281, 385] := by kernel_rfl
theorem ip286 : inP Tryz.f286 = false := by kernel_rfl
theorem ed287 : Tryz.prog.leadsTo Tryz.f287 = [368, 386] := by kernel_rfl
theorem ip287 : inP Tryz.f287 = false := by kernel_rfl
theorem ed288 : Tryz.prog.leadsTo Tryz.f288 = [281, 212, 387, 387, 384] := by kernel_rfl
theorem ip288 : inP Tryz.f288 = false := by kernel_rfl
theorem ed289 : Tryz.prog.leadsTo Tryz.f289 = [304] := by kernel_rfl
theorem ip289 : inP Tryz.f289 = false := by kernel_rfl
theorem ed290 : Tryz.prog.leadsTo Tryz.f290 = [] := by kernel_rfl
theorem ip290 : inP Tryz.f290 = false := by kernel_rfl
theorem ed291 : Tryz.prog.leadsTo Tryz.f291 = [388, 389] := by kernel_rfl
theorem ip291 : inP Tryz.f291 = false := by kernel_rfl
theorem ed292 : Tryz.prog.leadsTo Tryz.f292 = [] := by kernel_rfl
theorem ip292 : inP Tryz.f292 = false := by kernel_rfl
theorem ed293 : Tryz.prog.leadsTo Tryz.f293 = [198, 269, 390, 392, 391] := by kernel_rfl
theorem ip293 : inP Tryz.f293 = false := by kernel_rfl
theorem ed294 : Tryz.prog.leadsTo Tryz.f294 = [198, 272, 393] := by kernel_rfl
theorem ip294 : inP Tryz.f294 = false := by kernel_rfl
theorem ed295 : Tryz.prog.leadsTo Tryz.f295 = [186] := by kernel_rfl
theorem ip295 : inP Tryz.f295 = false := by kernel_rfl
theorem ed296 : Tryz.prog.leadsTo Tryz.f296 = [394, 394, 394, 394] := by kernel_rfl
theorem ip296 : inP Tryz.f296 = false := by kernel_rfl
theorem ed297 : Tryz.prog.leadsTo Tryz.f297 = [186] := by kernel_rfl
theorem ip297 : inP Tryz.f297 = false := by kernel_rfl
theorem ed298 : Tryz.prog.leadsTo Tryz.f298 = [395, 396] := by kernel_rfl
theorem ip298 : inP Tryz.f298 = false := by kernel_rfl
theorem ed299 : Tryz.prog.leadsTo Tryz.f299 = [186, 190, 350, 225, 224, 397, 270] := by kernel_rfl
theorem ip299 : inP Tryz.f299 = false := by kernel_rfl
theorem ed300 : Tryz.prog.leadsTo Tryz.f300 = [206, 397, 398, 34] := by kernel_rfl
theorem ip300 : inP Tryz.f300 = false := by kernel_rfl
theorem ed301 : Tryz.prog.leadsTo Tryz.f301 = [298, 205] := by kernel_rfl
theorem ip301 : inP Tryz.f301 = false := by kernel_rfl
theorem ed302 : Tryz.prog.leadsTo Tryz.f302 = [399, 296, 169, 400, 401, 169] := by kernel_rfl
theorem ip302 : inP Tryz.f302 = false := by kernel_rfl
theorem ed303 : Tryz.prog.leadsTo Tryz.f303 = [402] := by kernel_rfl
theorem ip303 : inP Tryz.f303 = false := by kernel_rfl
theorem ed304 : Tryz.prog.leadsTo Tryz.f304 = [] := by kernel_rfl
theorem ip304 : inP Tryz.f304 = false := by kernel_rfl
theorem ed305 : Tryz.prog.leadsTo Tryz.f305 = [404, 403] := by kernel_rfl
theorem ip305 : inP Tryz.f305 = false := by kernel_rfl
theorem ed306 : Tryz.prog.leadsTo Tryz.f306 = [304] := by kernel_rfl
theorem ip306 : inP Tryz.f306 = false := by kernel_rfl
theorem ed307 : Tryz.prog.leadsTo Tryz.f307 = [405, 406] := by kernel_rfl
theorem ip307 : inP Tryz.f307 = false := by kernel_rfl
theorem ed308 : Tryz.prog.leadsTo Tryz.f308 = [] := by kernel_rfl
theorem ip308 : inP Tryz.f308 = false := by kernel_rfl
theorem ed309 : Tryz.prog.leadsTo Tryz.f309 = [] := by kernel_rfl
theorem ip309 : inP Tryz.f309 = false := by kernel_rfl
theorem ed310 : Tryz.prog.leadsTo Tryz.f310 = [] := by kernel_rfl
theorem ip310 : inP Tryz.f310 = false := by kernel_rfl
theorem ed311 : Tryz.prog.leadsTo Tryz.f311 = [143] := by kernel_rfl
theorem ip311 : inP Tryz.f311 = false := by kernel_rfl
theorem ed312 : Tryz.prog.leadsTo Tryz.f312 = [407] := by kernel_rfl
theorem ip312 : inP Tryz.f312 = false := by kernel_rfl
theorem ed313 : Tryz.prog.leadsTo Tryz.f313 = [] := by kernel_rfl
theorem ip313 : inP Tryz.f313 = false := by kernel_rfl
theorem ed314 : Tryz.prog.leadsTo Tryz.f314 = [131, 408, 259, 215] := by kernel_rfl
theorem ip314 : inP Tryz.f314 = false := by kernel_rfl
theorem ed315 : Tryz.prog.leadsTo Tryz.f315 = [133, 409, 245, 131, 232, 158, 161] := by kernel_rfl
theorem ip315 : inP Tryz.f315 = false := by kernel_rfl
theorem ed316 : Tryz.prog.leadsTo Tryz.f316 = [193] := by kernel_rfl
theorem ip316 : inP Tryz.f316 = false := by kernel_rfl
theorem ed317 : Tryz.prog.leadsTo Tryz.f317 = [193, 410] := by kernel_rfl
theorem ip317 : inP Tryz.f317 = false := by kernel_rfl
theorem ed318 : Tryz.prog.leadsTo Tryz.f318 = [355, 193, 193, 317, 197, 262] := by kernel_rfl
theorem ip318 : inP Tryz.f318 = false := by kernel_rfl
theorem ed319 : Tryz.prog.leadsTo Tryz.f319 = [] := by kernel_rfl
theorem ip319 : inP Tryz.f319 = false := by kernel_rfl
theorem ed320 : Tryz.prog.leadsTo Tryz.f320 = [211, 285] := by kernel_rfl
theorem ip320 : inP Tryz.f320 = false := by kernel_rfl
theorem ed321 : Tryz.prog.leadsTo Tryz.f321 = [] := by kernel_rfl
theorem ip321 : inP Tryz.f321 = false := by kernel_rfl
theorem ed322 : Tryz.prog.leadsTo Tryz.f322 = [411, 412, 413, 414, 415, 416, 417, 418, 419, 322, 322] := by kernel_rfl
theorem ip322 : inP Tryz.f322 = false := by kernel_rfl
theorem ed323 : Tryz.prog.leadsTo Tryz.f323 = [420, 421] := by kernel_rfl
theorem ip323 : inP Tryz.f323 = false := by kernel_rfl
theorem ed324 : Tryz.prog.leadsTo Tryz.f324 = [141, 134] := by kernel_rfl
theorem ip324 : inP Tryz.f324 = false := by kernel_rfl
theorem ed325 : Tryz.prog.leadsTo Tryz.f325 = [422, 143] := by kernel_rfl
theorem ip325 : inP Tryz.f325 = false := by kernel_rfl
theorem ed326 : Tryz.prog.leadsTo Tryz.f326 = [422, 329, 423, 424] := by kernel_rfl
theorem ip326 : inP Tryz.f326 = false := by kernel_rfl
theorem ed327 : Tryz.prog.leadsTo Tryz.f327 = [319, 425, 337] := by kernel_rfl
theorem ip327 : inP Tryz.f327 = false := by kernel_rfl
theorem ed328 : Tryz.prog.leadsTo Tryz.f328 = [239, 133, 426, 427, 314, 162, 315] := by kernel_rfl
theorem ip328 : inP Tryz.f328 = false := by kernel_rfl
theorem ed329 : Tryz.prog.leadsTo Tryz.f329 = [141] := by kernel_rfl
theorem ip329 : inP Tryz.f329 = false := by kernel_rfl
end Go.Proofs.YtjdebeibhnjbgaaGreat

/- A table of calls; no conditions. -/
namespace Go.Proofs.YtjdebeibhnjbgaaGreat
open Go Go.Proofs.Rn
theorem ed330 : Tryz.prog.leadsTo Tryz.f330 = [] := by kernel_rfl
theorem ip330 : inP Tryz.f330 = false := by kernel_rfl
theorem ed331 : Tryz.prog.leadsTo Tryz.f331 = [] := by kernel_rfl
theorem ip331 : inP Tryz.f331 = false := by kernel_rfl
theorem ed332 : Tryz.prog.leadsTo Tryz.f332 = [206, 34] := by kernel_rfl
theorem ip332 : inP Tryz.f332 = false := by kernel_rfl
theorem ed333 : Tryz.prog.leadsTo Tryz.f333 = [293, 169, 331, 294, 169, 331, 428, 169, 331, 429, 430, 169, 431, 432, 433, 432, 434] := by kernel_rfl
theorem ip333 : inP Tryz.f333 = false := by kernel_rfl
theorem ed334 : Tryz.prog.leadsTo Tryz.f334 = [] := by kernel_rfl
theorem ip334 : inP Tryz.f334 = false := by kernel_rfl
theorem ed335 : Tryz.prog.leadsTo Tryz.f335 = [185, 186, 191, 144] := by kernel_rfl
theorem ip335 : inP Tryz.f335 = false := by kernel_rfl
theorem ed336 : Tryz.prog.leadsTo Tryz.f336 = [376, 318, 380, 435, 437, 439, 377] := by kernel_rfl
theorem ip336 : inP Tryz.f336 = false := by kernel_rfl
theorem ed337 : Tryz.prog.leadsTo Tryz.f337 = [] := by kernel_rfl
theorem ip337 : inP Tryz.f337 = false := by kernel_rfl
theorem ed338 : Tryz.prog.leadsTo Tryz.f338 = [281, 212, 442, 441, 443, 444] := by kernel_rfl
theorem ip338 : inP Tryz.f338 = false := by kernel_rfl
theorem ed339 : Tryz.prog.leadsTo Tryz.f339 = [122, 123, 445, 203, 446, 127] := by kernel_rfl
theorem ip339 : inP Tryz.f339 = false := by kernel_rfl
theorem ed340 : Tryz.prog.leadsTo Tryz.f340 = [198, 193, 447, 403, 193, 194, 193, 448, 403, 193, 195] := by kernel_rfl
theorem ip340 : inP Tryz.f340 = false := by kernel_rfl
theorem ed341 : Tryz.prog.leadsTo Tryz.f341 = [193] := by kernel_rfl
theorem ip341 : inP Tryz.f341 = false := by kernel_rfl
theorem ed342 : Tryz.prog.leadsTo Tryz.f342 = [196, 193, 193] := by kernel_rfl
theorem ip342 : inP Tryz.f342 = false := by kernel_rfl
theorem ed343 : Tryz.prog.leadsTo Tryz.f343 = [193, 193] := by kernel_rfl
theorem ip343 : inP Tryz.f343 = false := by kernel_rfl
theorem ed344 : Tryz.prog.leadsTo Tryz.f344 = [206, 193, 450, 449, 193, 451] := by kernel_rfl
theorem ip344 : inP Tryz.f344 = false := by kernel_rfl
theorem ed345 : Tryz.prog.leadsTo Tryz.f345 = [452] := by kernel_rfl
theorem ip345 : inP Tryz.f345 = false := by kernel_rfl
theorem ed346 : Tryz.prog.leadsTo Tryz.f346 = [] := by kernel_rfl
theorem ip346 : inP Tryz.f346 = false := by kernel_rfl
theorem ed347 : Tryz.prog.leadsTo Tryz.f347 = [348] := by kernel_rfl
theorem ip347 : inP Tryz.f347 = false := by kernel_rfl
theorem ed348 : Tryz.prog.leadsTo Tryz.f348 = [] := by kernel_rfl
theorem ip348 : inP Tryz.f348 = false := by kernel_rfl
theorem ed349 : Tryz.prog.leadsTo Tryz.f349 = [] := by kernel_rfl
theorem ip349 : inP Tryz.f349 = false := by kernel_rfl
theorem ed350 : Tryz.prog.leadsTo Tryz.f350 = [186] := by kernel_rfl
theorem ip350 : inP Tryz.f350 = false := by kernel_rfl
theorem ed351 : Tryz.prog.leadsTo Tryz.f351 = [221, 185, 186, 186, 186, 186, 352, 191, 355] := by kernel_rfl
theorem ip351 : inP Tryz.f351 = false := by kernel_rfl
theorem ed352 : Tryz.prog.leadsTo Tryz.f352 = [270, 186, 360, 270, 453] := by kernel_rfl
theorem ip352 : inP Tryz.f352 = false := by kernel_rfl
theorem ed353 : Tryz.prog.leadsTo Tryz.f353 = [] := by kernel_rfl
theorem ip353 : inP Tryz.f353 = false := by kernel_rfl
theorem ed354 : Tryz.prog.leadsTo Tryz.f354 = [454, 335] := by kernel_rfl
theorem ip354 : inP Tryz.f354 = false := by kernel_rfl
theorem ed355 : Tryz.prog.leadsTo Tryz.f355 = [455] := by kernel_rfl
theorem ip355 : inP Tryz.f355 = false := by kernel_rfl
theorem ed356 : Tryz.prog.leadsTo Tryz.f356 = [456] := by kernel_rfl
theorem ip356 : inP Tryz.f356 = false := by kernel_rfl
theorem ed357 : Tryz.prog.leadsTo Tryz.f357 = [152, 152, 152] := by kernel_rfl
theorem ip357 : inP Tryz.f357 = false := by kernel_rfl
theorem ed358 : Tryz.prog.leadsTo Tryz.f358 = [457, 327, 259, 161] := by kernel_rfl
theorem ip358 : inP Tryz.f358 = false := by kernel_rfl
theorem ed359 : Tryz.prog.leadsTo Tryz.f359 = [131, 457, 458, 152, 459, 460, 461, 143, 250, 462] := by kernel_rfl
theorem ip359 : inP Tryz.f359 = false := by kernel_rfl
theorem ed360 : Tryz.prog.leadsTo Tryz.f360 = [] := by kernel_rfl
theorem ip360 : inP Tryz.f360 = false := by kernel_rfl
theorem ed361 : Tryz.prog.leadsTo Tryz.f361 = [463, 464] := by kernel_rfl
theorem ip361 : inP Tryz.f361 = false := by kernel_rfl
theorem ed362 : Tryz.prog.leadsTo Tryz.f362 = [] := by kernel_rfl
theorem ip362 : inP Tryz.f362 = false := by kernel_rfl
theorem ed363 : Tryz.prog.leadsTo Tryz.f363 = [465, 465] := by kernel_rfl
theorem ip363 : inP Tryz.f363 = false := by kernel_rfl
theorem ed364 : Tryz.prog.leadsTo Tryz.f364 = [466] := by kernel_rfl
theorem ip364 : inP Tryz.f364 = false := by kernel_rfl
theorem ed365 : Tryz.prog.leadsTo Tryz.f365 = [467] := by kernel_rfl
theorem ip365 : inP Tryz.f365 = false := by kernel_rfl
theorem ed366 : Tryz.prog.leadsTo Tryz.f366 = [] := by kernel_rfl
theorem ip366 : inP Tryz.f366 = false := by kernel_rfl
theorem ed367 : Tryz.prog.leadsTo Tryz.f367 = [468] := by kernel_rfl
theorem ip367 : inP Tryz.f367 = false := by kernel_rfl
theorem ed368 : Tryz.prog.leadsTo Tryz.f368 = [467] := by kernel_rfl
theorem ip368 : inP Tryz.f368 = false := by kernel_rfl
theorem ed369 : Tryz.prog.leadsTo Tryz.f369 = [334, 469] := by kernel_rfl
theorem ip369 : inP Tryz.f369 = false := by kernel_rfl
theorem ed370 : Tryz.prog.leadsTo Tryz.f370 = [470] := by kernel_rfl
theorem ip370 : inP Tryz.f370 = false := by kernel_rfl
theorem ed371 : Tryz.prog.leadsTo Tryz.f371 = [471, 472] := by kernel_rfl
theorem ip371 : inP Tryz.f371 = false := by kernel_rfl
theorem ed372 : Tryz.prog.leadsTo Tryz.f372 = [473] := by kernel_rfl
theorem ip372 : inP Tryz.f372 = false := by kernel_rfl
theorem ed373 : Tryz.prog.leadsTo Tryz.f373 = [473, 474, 374] := by kernel_rfl
theorem ip373 : inP Tryz.f373 = false := by kernel_rfl
theorem ed374 : Tryz.prog.leadsTo Tryz.f374 = [475, 468] := by kernel_rfl
theorem ip374 : inP Tryz.f374 = false := by kernel_rfl
theorem ed375 : Tryz.prog.leadsTo Tryz.f375 = [] := by kernel_rfl
theorem ip375 : inP Tryz.f375 = false := by kernel_rfl
theorem ed376 : Tryz.prog.leadsTo Tryz.f376 = [] := by kernel_rfl
theorem ip376 : inP Tryz.f376 = false := by kernel_rfl
theorem ed377 : Tryz.prog.leadsTo Tryz.f377 = [33] := by kernel_rfl
theorem ip377 : inP Tryz.f377 = false := by kernel_rfl
theorem ed378 : Tryz.prog.leadsTo Tryz.f378 = [441] := by kernel_rfl
theorem ip378 : inP Tryz.f378 = false := by kernel_rfl
theorem ed379 : Tryz.prog.leadsTo Tryz.f379 = [381, 476, 477, 438] := by kernel_rfl
theorem ip379 : inP Tryz.f379 = false := by kernel_rfl
theorem ed380 : Tryz.prog.leadsTo Tryz.f380 = [441] := by kernel_rfl
theorem ip380 : inP Tryz.f380 = false := by kernel_rfl
theorem ed381 : Tryz.prog.leadsTo Tryz.f381 = [478, 33] := by kernel_rfl
theorem ip381 : inP Tryz.f381 = false := by kernel_rfl
theorem ed382 : Tryz.prog.leadsTo Tryz.f382 = [102, 479, 480, 481, 381, 482, 441] := by kernel_rfl
theorem ip382 : inP Tryz.f382 = false := by kernel_rfl
theorem ed383 : Tryz.prog.leadsTo Tryz.f383 = [483, 442, 381, 442, 477, 442, 438] := by kernel_rfl
theorem ip383 : inP Tryz.f383 = false := by kernel_rfl
theorem ed384 : Tryz.prog.leadsTo Tryz.f384 = [444, 33] := by kernel_rfl
theorem ip384 : inP Tryz.f384 = false := by kernel_rfl
theorem ed385 : Tryz.prog.leadsTo Tryz.f385 = [483, 442, 441, 484, 443] := by kernel_rfl
theorem ip385 : inP Tryz.f385 = false := by kernel_rfl
theorem ed386 : Tryz.prog.leadsTo Tryz.f386 = [] := by kernel_rfl
theorem ip386 : inP Tryz.f386 = false := by kernel_rfl
theorem ed387 : Tryz.prog.leadsTo Tryz.f387 = [281] := by kernel_rfl
theorem ip387 : inP Tryz.f387 = false := by kernel_rfl
theorem ed388 : Tryz.prog.leadsTo Tryz.f388 = [] := by kernel_rfl
theorem ip388 : inP Tryz.f388 = false := by kernel_rfl
theorem ed389 : Tryz.prog.leadsTo Tryz.f389 = [485, 33] := by kernel_rfl
theorem ip389 : inP Tryz.f389 = false := by kernel_rfl
theorem ed390 : Tryz.prog.leadsTo Tryz.f390 = [486, 486] := by kernel_rfl
theorem ip390 : inP Tryz.f390 = false := by kernel_rfl
theorem ed391 : Tryz.prog.leadsTo Tryz.f391 = [] := by kernel_rfl
theorem ip391 : inP Tryz.f391 = false := by kernel_rfl
theorem ed392 : Tryz.prog.leadsTo Tryz.f392 = [361] := by kernel_rfl
theorem ip392 : inP Tryz.f392 = false := by kernel_rfl
theorem ed393 : Tryz.prog.leadsTo Tryz.f393 = [487] := by kernel_rfl
theorem ip393 : inP Tryz.f393 = false := by kernel_rfl
theorem ed394 : Tryz.prog.leadsTo Tryz.f394 = [] := by kernel_rfl
theorem ip394 : inP Tryz.f394 = false := by kernel_rfl
theorem ed395 : Tryz.prog.leadsTo Tryz.f395 = [] := by kernel_rfl
theorem ip395 : inP Tryz.f395 = false := by kernel_rfl
theorem ed396 : Tryz.prog.leadsTo Tryz.f396 = [488] := by kernel_rfl
theorem ip396 : inP Tryz.f396 = false := by kernel_rfl
theorem ed397 : Tryz.prog.leadsTo Tryz.f397 = [489, 296] := by kernel_rfl
theorem ip397 : inP Tryz.f397 = false := by kernel_rfl
theorem ed398 : Tryz.prog.leadsTo Tryz.f398 = [206] := by kernel_rfl
theorem ip398 : inP Tryz.f398 = false := by kernel_rfl
theorem ed399 : Tryz.prog.leadsTo Tryz.f399 = [490, 491] := by kernel_rfl
theorem ip399 : inP Tryz.f399 = false := by kernel_rfl
theorem ed400 : Tryz.prog.leadsTo Tryz.f400 = [492, 493, 494, 495, 496, 498, 497] := by kernel_rfl
theorem ip400 : inP Tryz.f400 = false := by kernel_rfl
theorem ed401 : Tryz.prog.leadsTo Tryz.f401 = [201, 369] := by kernel_rfl
theorem ip401 : inP Tryz.f401 = false := by kernel_rfl
theorem ed402 : Tryz.prog.leadsTo Tryz.f402 = [499, 399, 500] := by kernel_rfl
theorem ip402 : inP Tryz.f402 = false := by kernel_rfl
theorem ed403 : Tryz.prog.leadsTo Tryz.f403 = [501, 502] := by kernel_rfl
theorem ip403 : inP Tryz.f403 = false := by kernel_rfl
theorem ed404 : Tryz.prog.leadsTo Tryz.f404 = [503] := by kernel_rfl
theorem ip404 : inP Tryz.f404 = false := by kernel_rfl
theorem ed405 : Tryz.prog.leadsTo Tryz.f405 = [141, 151, 504, 329] := by kernel_rfl
theorem ip405 : inP Tryz.f405 = false := by kernel_rfl
theorem ed406 : Tryz.prog.leadsTo Tryz.f406 = [] := by kernel_rfl
theorem ip406 : inP Tryz.f406 = false := by kernel_rfl
theorem ed407 : Tryz.prog.leadsTo Tryz.f407 = [] := by kernel_rfl
theorem ip407 : inP Tryz.f407 = false := by kernel_rfl
theorem ed408 : Tryz.prog.leadsTo Tryz.f408 = [319, 505, 506, 337] := by kernel_rfl
theorem ip408 : inP Tryz.f408 = false := by kernel_rfl
theorem ed409 : Tryz.prog.leadsTo Tryz.f409 = [405, 507] := by kernel_rfl
theorem ip409 : inP Tryz.f409 = false := by kernel_rfl
theorem ed410 : Tryz.prog.leadsTo Tryz.f410 = [] := by kernel_rfl
theorem ip410 : inP Tryz.f410 = false := by kernel_rfl
theorem ed411 : Tryz.prog.leadsTo Tryz.f411 = [417] := by kernel_rfl
theorem ip411 : inP Tryz.f411 = false := by kernel_rfl
theorem ed412 : Tryz.prog.leadsTo Tryz.f412 = [508, 508] := by kernel_rfl
theorem ip412 : inP Tryz.f412 = false := by kernel_rfl
theorem ed413 : Tryz.prog.leadsTo Tryz.f413 = [509, 510] := by kernel_rfl
theorem ip413 : inP Tryz.f413 = false := by kernel_rfl
theorem ed414 : Tryz.prog.leadsTo Tryz.f414 = [511, 511, 511, 512] := by kernel_rfl
theorem ip414 : inP Tryz.f414 = false := by kernel_rfl
theorem ed415 : Tryz.prog.leadsTo Tryz.f415 = [] := by kernel_rfl
theorem ip415 : inP Tryz.f415 = false := by kernel_rfl
theorem ed416 : Tryz.prog.leadsTo Tryz.f416 = [417, 417, 417] := by kernel_rfl
theorem ip416 : inP Tryz.f416 = false := by kernel_rfl
theorem ed417 : Tryz.prog.leadsTo Tryz.f417 = [513, 513] := by kernel_rfl
theorem ip417 : inP Tryz.f417 = false := by kernel_rfl
theorem ed418 : Tryz.prog.leadsTo Tryz.f418 = [417, 417] := by kernel_rfl
theorem ip418 : inP Tryz.f418 = false := by kernel_rfl
theorem ed419 : Tryz.prog.leadsTo Tryz.f419 = [417, 417, 417, 417] := by kernel_rfl
theorem ip419 : inP Tryz.f419 = false := by kernel_rfl
theorem ed420 : Tryz.prog.leadsTo Tryz.f420 = [] := by kernel_rfl
theorem ip420 : inP Tryz.f420 = false := by kernel_rfl
theorem ed421 : Tryz.prog.leadsTo Tryz.f421 = [] := by kernel_rfl
theorem ip421 : inP Tryz.f421 = false := by kernel_rfl
theorem ed422 : Tryz.prog.leadsTo Tryz.f422 = [] := by kernel_rfl
theorem ip422 : inP Tryz.f422 = false := by kernel_rfl
theorem ed423 : Tryz.prog.leadsTo Tryz.f423 = [514] := by kernel_rfl
theorem ip423 : inP Tryz.f423 = false := by kernel_rfl
theorem ed424 : Tryz.prog.leadsTo Tryz.f424 = [514] := by kernel_rfl
theorem ip424 : inP Tryz.f424 = false := by kernel_rfl
theorem ed425 : Tryz.prog.leadsTo Tryz.f425 = [375, 515, 516, 518, 517] := by kernel_rfl
theorem ip425 : inP Tryz.f425 = false := by kernel_rfl
theorem ed426 : Tryz.prog.leadsTo Tryz.f426 = [238] := by kernel_rfl
theorem ip426 : inP Tryz.f426 = false := by kernel_rfl
theorem ed427 : Tryz.prog.leadsTo Tryz.f427 = [] := by kernel_rfl
theorem ip427 : inP Tryz.f427 = false := by kernel_rfl
theorem ed428 : Tryz.prog.leadsTo Tryz.f428 = [] := by kernel_rfl
theorem ip428 : inP Tryz.f428 = false := by kernel_rfl
theorem ed429 : Tryz.prog.leadsTo Tryz.f429 = [519, 519, 399, 519, 169, 520, 303, 519, 521, 519] := by kernel_rfl
theorem ip429 : inP Tryz.f429 = false := by kernel_rfl
theorem ed430 : Tryz.prog.leadsTo Tryz.f430 = [522, 169, 523, 524, 525] := by kernel_rfl
theorem ip430 : inP Tryz.f430 = false := by kernel_rfl
theorem ed431 : Tryz.prog.leadsTo Tryz.f431 = [526, 348] := by kernel_rfl
theorem ip431 : inP Tryz.f431 = false := by kernel_rfl
theorem ed432 : Tryz.prog.leadsTo Tryz.f432 = [169, 331] := by kernel_rfl
theorem ip432 : inP Tryz.f432 = false := by kernel_rfl
theorem ed433 : Tryz.prog.leadsTo Tryz.f433 = [526, 348] := by kernel_rfl
theorem ip433 : inP Tryz.f433 = false := by kernel_rfl
theorem ed434 : Tryz.prog.leadsTo Tryz.f434 = [519, 399, 169, 527, 528, 529, 530, 303, 519, 521, 519] := by kernel_rfl
theorem ip434 : inP Tryz.f434 = false := by kernel_rfl
theorem ed435 : Tryz.prog.leadsTo Tryz.f435 = [436] := by kernel_rfl
theorem ip435 : inP Tryz.f435 = false := by kernel_rfl
theorem ed436 : Tryz.prog.leadsTo Tryz.f436 = [478, 531, 532, 533] := by kernel_rfl
theorem ip436 : inP Tryz.f436 = false := by kernel_rfl
theorem ed437 : Tryz.prog.leadsTo Tryz.f437 = [438] := by kernel_rfl
theorem ip437 : inP Tryz.f437 = false := by kernel_rfl
theorem ed438 : Tryz.prog.leadsTo Tryz.f438 = [478, 533] := by kernel_rfl
theorem ip438 : inP Tryz.f438 = false := by kernel_rfl
theorem ed439 : Tryz.prog.leadsTo Tryz.f439 = [440] := by kernel_rfl
theorem ip439 : inP Tryz.f439 = false := by kernel_rfl
end Go.Proofs.YtjdebeibhnjbgaaGreat

/- A table of calls; no conditions. -/
namespace Go.Proofs.YtjdebeibhnjbgaaGreat
open Go Go.Proofs.Rn
theorem ed440 : Tryz.prog.leadsTo Tryz.f440 = [478, 531, 533] := by kernel_rfl
theorem ip440 : inP Tryz.f440 = false := by kernel_rfl
theorem ed441 : Tryz.prog.leadsTo Tryz.f441 = [478, 533] := by kernel_rfl
theorem ip441 : inP Tryz.f441 = false := by kernel_rfl
theorem ed442 : Tryz.prog.leadsTo Tryz.f442 = [534] := by kernel_rfl
theorem ip442 : inP Tryz.f442 = false := by kernel_rfl
theorem ed443 : Tryz.prog.leadsTo Tryz.f443 = [] := by kernel_rfl
theorem ip443 : inP Tryz.f443 = false := by kernel_rfl
theorem ed444 : Tryz.prog.leadsTo Tryz.f444 = [] := by kernel_rfl
theorem ip444 : inP Tryz.f444 = false := by kernel_rfl
theorem ed445 : Tryz.prog.leadsTo Tryz.f445 = [535, 449] := by kernel_rfl
theorem ip445 : inP Tryz.f445 = false := by kernel_rfl
theorem ed446 : Tryz.prog.leadsTo Tryz.f446 = [204, 205] := by kernel_rfl
theorem ip446 : inP Tryz.f446 = false := by kernel_rfl
theorem ed447 : Tryz.prog.leadsTo Tryz.f447 = [536] := by kernel_rfl
theorem ip447 : inP Tryz.f447 = false := by kernel_rfl
theorem ed448 : Tryz.prog.leadsTo Tryz.f448 = [537] := by kernel_rfl
theorem ip448 : inP Tryz.f448 = false := by kernel_rfl
theorem ed449 : Tryz.prog.leadsTo Tryz.f449 = [538, 504] := by kernel_rfl
theorem ip449 : inP Tryz.f449 = false := by kernel_rfl
theorem ed450 : Tryz.prog.leadsTo Tryz.f450 = [539] := by kernel_rfl
theorem ip450 : inP Tryz.f450 = false := by kernel_rfl
theorem ed451 : Tryz.prog.leadsTo Tryz.f451 = [193, 196, 489, 316, 489, 341, 193, 193, 193] := by kernel_rfl
theorem ip451 : inP Tryz.f451 = false := by kernel_rfl
theorem ed452 : Tryz.prog.leadsTo Tryz.f452 = [540] := by kernel_rfl
theorem ip452 : inP Tryz.f452 = false := by kernel_rfl
theorem ed453 : Tryz.prog.leadsTo Tryz.f453 = [360, 270, 33] := by kernel_rfl
theorem ip453 : inP Tryz.f453 = false := by kernel_rfl
theorem ed454 : Tryz.prog.leadsTo Tryz.f454 = [] := by kernel_rfl
theorem ip454 : inP Tryz.f454 = false := by kernel_rfl
theorem ed455 : Tryz.prog.leadsTo Tryz.f455 = [] := by kernel_rfl
theorem ip455 : inP Tryz.f455 = false := by kernel_rfl
theorem ed456 : Tryz.prog.leadsTo Tryz.f456 = [308, 541] := by kernel_rfl
theorem ip456 : inP Tryz.f456 = false := by kernel_rfl
theorem ed457 : Tryz.prog.leadsTo Tryz.f457 = [] := by kernel_rfl
theorem ip457 : inP Tryz.f457 = false := by kernel_rfl
theorem ed458 : Tryz.prog.leadsTo Tryz.f458 = [214, 133] := by kernel_rfl
theorem ip458 : inP Tryz.f458 = false := by kernel_rfl
theorem ed459 : Tryz.prog.leadsTo Tryz.f459 = [131, 325, 326, 250, 328] := by kernel_rfl
theorem ip459 : inP Tryz.f459 = false := by kernel_rfl
theorem ed460 : Tryz.prog.leadsTo Tryz.f460 = [209, 458, 327, 259, 152] := by kernel_rfl
theorem ip460 : inP Tryz.f460 = false := by kernel_rfl
theorem ed461 : Tryz.prog.leadsTo Tryz.f461 = [151, 244, 133, 542, 543, 151, 315, 133, 153, 133, 152, 544, 153, 233] := by kernel_rfl
theorem ip461 : inP Tryz.f461 = false := by kernel_rfl
theorem ed462 : Tryz.prog.leadsTo Tryz.f462 = [260, 259, 215, 245, 545, 546, 152] := by kernel_rfl
theorem ip462 : inP Tryz.f462 = false := by kernel_rfl
theorem ed463 : Tryz.prog.leadsTo Tryz.f463 = [547, 486, 549, 548] := by kernel_rfl
theorem ip463 : inP Tryz.f463 = false := by kernel_rfl
theorem ed464 : Tryz.prog.leadsTo Tryz.f464 = [547, 486] := by kernel_rfl
theorem ip464 : inP Tryz.f464 = false := by kernel_rfl
theorem ed465 : Tryz.prog.leadsTo Tryz.f465 = [550, 551] := by kernel_rfl
theorem ip465 : inP Tryz.f465 = false := by kernel_rfl
theorem ed466 : Tryz.prog.leadsTo Tryz.f466 = [] := by kernel_rfl
theorem ip466 : inP Tryz.f466 = false := by kernel_rfl
theorem ed467 : Tryz.prog.leadsTo Tryz.f467 = [552] := by kernel_rfl
theorem ip467 : inP Tryz.f467 = false := by kernel_rfl
theorem ed468 : Tryz.prog.leadsTo Tryz.f468 = [554, 555, 553] := by kernel_rfl
theorem ip468 : inP Tryz.f468 = false := by kernel_rfl
theorem ed469 : Tryz.prog.leadsTo Tryz.f469 = [556] := by kernel_rfl
theorem ip469 : inP Tryz.f469 = false := by kernel_rfl
theorem ed470 : Tryz.prog.leadsTo Tryz.f470 = [334, 557] := by kernel_rfl
theorem ip470 : inP Tryz.f470 = false := by kernel_rfl
theorem ed471 : Tryz.prog.leadsTo Tryz.f471 = [] := by kernel_rfl
theorem ip471 : inP Tryz.f471 = false := by kernel_rfl
theorem ed472 : Tryz.prog.leadsTo Tryz.f472 = [473] := by kernel_rfl
theorem ip472 : inP Tryz.f472 = false := by kernel_rfl
theorem ed473 : Tryz.prog.leadsTo Tryz.f473 = [] := by kernel_rfl
theorem ip473 : inP Tryz.f473 = false := by kernel_rfl
theorem ed474 : Tryz.prog.leadsTo Tryz.f474 = [] := by kernel_rfl
theorem ip474 : inP Tryz.f474 = false := by kernel_rfl
theorem ed475 : Tryz.prog.leadsTo Tryz.f475 = [558] := by kernel_rfl
theorem ip475 : inP Tryz.f475 = false := by kernel_rfl
theorem ed476 : Tryz.prog.leadsTo Tryz.f476 = [559, 185, 186, 186, 191] := by kernel_rfl
theorem ip476 : inP Tryz.f476 = false := by kernel_rfl
theorem ed477 : Tryz.prog.leadsTo Tryz.f477 = [478, 533] := by kernel_rfl
theorem ip477 : inP Tryz.f477 = false := by kernel_rfl
theorem ed478 : Tryz.prog.leadsTo Tryz.f478 = [86] := by kernel_rfl
theorem ip478 : inP Tryz.f478 = false := by kernel_rfl
theorem ed479 : Tryz.prog.leadsTo Tryz.f479 = [560] := by kernel_rfl
theorem ip479 : inP Tryz.f479 = false := by kernel_rfl
theorem ed480 : Tryz.prog.leadsTo Tryz.f480 = [481] := by kernel_rfl
theorem ip480 : inP Tryz.f480 = false := by kernel_rfl
theorem ed481 : Tryz.prog.leadsTo Tryz.f481 = [561] := by kernel_rfl
theorem ip481 : inP Tryz.f481 = false := by kernel_rfl
theorem ed482 : Tryz.prog.leadsTo Tryz.f482 = [562, 212] := by kernel_rfl
theorem ip482 : inP Tryz.f482 = false := by kernel_rfl
theorem ed483 : Tryz.prog.leadsTo Tryz.f483 = [] := by kernel_rfl
theorem ip483 : inP Tryz.f483 = false := by kernel_rfl
theorem ed484 : Tryz.prog.leadsTo Tryz.f484 = [] := by kernel_rfl
theorem ip484 : inP Tryz.f484 = false := by kernel_rfl
theorem ed485 : Tryz.prog.leadsTo Tryz.f485 = [452] := by kernel_rfl
theorem ip485 : inP Tryz.f485 = false := by kernel_rfl
theorem ed486 : Tryz.prog.leadsTo Tryz.f486 = [] := by kernel_rfl
theorem ip486 : inP Tryz.f486 = false := by kernel_rfl
theorem ed487 : Tryz.prog.leadsTo Tryz.f487 = [] := by kernel_rfl
theorem ip487 : inP Tryz.f487 = false := by kernel_rfl
theorem ed488 : Tryz.prog.leadsTo Tryz.f488 = [] := by kernel_rfl
theorem ip488 : inP Tryz.f488 = false := by kernel_rfl
theorem ed489 : Tryz.prog.leadsTo Tryz.f489 = [] := by kernel_rfl
theorem ip489 : inP Tryz.f489 = false := by kernel_rfl
theorem ed490 : Tryz.prog.leadsTo Tryz.f490 = [198, 393] := by kernel_rfl
theorem ip490 : inP Tryz.f490 = false := by kernel_rfl
theorem ed491 : Tryz.prog.leadsTo Tryz.f491 = [490, 563] := by kernel_rfl
theorem ip491 : inP Tryz.f491 = false := by kernel_rfl
theorem ed492 : Tryz.prog.leadsTo Tryz.f492 = [] := by kernel_rfl
theorem ip492 : inP Tryz.f492 = false := by kernel_rfl
theorem ed493 : Tryz.prog.leadsTo Tryz.f493 = [] := by kernel_rfl
theorem ip493 : inP Tryz.f493 = false := by kernel_rfl
theorem ed494 : Tryz.prog.leadsTo Tryz.f494 = [564, 565] := by kernel_rfl
theorem ip494 : inP Tryz.f494 = false := by kernel_rfl
theorem ed495 : Tryz.prog.leadsTo Tryz.f495 = [566] := by kernel_rfl
theorem ip495 : inP Tryz.f495 = false := by kernel_rfl
theorem ed496 : Tryz.prog.leadsTo Tryz.f496 = [568] := by kernel_rfl
theorem ip496 : inP Tryz.f496 = false := by kernel_rfl
theorem ed497 : Tryz.prog.leadsTo Tryz.f497 = [494, 564, 565, 569, 565] := by kernel_rfl
theorem ip497 : inP Tryz.f497 = false := by kernel_rfl
theorem ed498 : Tryz.prog.leadsTo Tryz.f498 = [564, 570, 494, 565] := by kernel_rfl
theorem ip498 : inP Tryz.f498 = false := by kernel_rfl
theorem ed499 : Tryz.prog.leadsTo Tryz.f499 = [204, 571, 348, 572] := by kernel_rfl
theorem ip499 : inP Tryz.f499 = false := by kernel_rfl
theorem ed500 : Tryz.prog.leadsTo Tryz.f500 = [] := by kernel_rfl
theorem ip500 : inP Tryz.f500 = false := by kernel_rfl
theorem ed501 : Tryz.prog.leadsTo Tryz.f501 = [573] := by kernel_rfl
theorem ip501 : inP Tryz.f501 = false := by kernel_rfl
theorem ed502 : Tryz.prog.leadsTo Tryz.f502 = [323, 574] := by kernel_rfl
theorem ip502 : inP Tryz.f502 = false := by kernel_rfl
theorem ed503 : Tryz.prog.leadsTo Tryz.f503 = [] := by kernel_rfl
theorem ip503 : inP Tryz.f503 = false := by kernel_rfl
theorem ed504 : Tryz.prog.leadsTo Tryz.f504 = [323, 575] := by kernel_rfl
theorem ip504 : inP Tryz.f504 = false := by kernel_rfl
theorem ed505 : Tryz.prog.leadsTo Tryz.f505 = [281, 212, 576, 212, 483, 506, 577, 442, 436, 483, 384] := by kernel_rfl
theorem ip505 : inP Tryz.f505 = false := by kernel_rfl
theorem ed506 : Tryz.prog.leadsTo Tryz.f506 = [281, 483, 442, 438] := by kernel_rfl
theorem ip506 : inP Tryz.f506 = false := by kernel_rfl
theorem ed507 : Tryz.prog.leadsTo Tryz.f507 = [] := by kernel_rfl
theorem ip507 : inP Tryz.f507 = false := by kernel_rfl
theorem ed508 : Tryz.prog.leadsTo Tryz.f508 = [417, 417] := by kernel_rfl
theorem ip508 : inP Tryz.f508 = false := by kernel_rfl
theorem ed509 : Tryz.prog.leadsTo Tryz.f509 = [323] := by kernel_rfl
theorem ip509 : inP Tryz.f509 = false := by kernel_rfl
theorem ed510 : Tryz.prog.leadsTo Tryz.f510 = [] := by kernel_rfl
theorem ip510 : inP Tryz.f510 = false := by kernel_rfl
theorem ed511 : Tryz.prog.leadsTo Tryz.f511 = [512] := by kernel_rfl
theorem ip511 : inP Tryz.f511 = false := by kernel_rfl
theorem ed512 : Tryz.prog.leadsTo Tryz.f512 = [578, 578, 578] := by kernel_rfl
theorem ip512 : inP Tryz.f512 = false := by kernel_rfl
theorem ed513 : Tryz.prog.leadsTo Tryz.f513 = [] := by kernel_rfl
theorem ip513 : inP Tryz.f513 = false := by kernel_rfl
theorem ed514 : Tryz.prog.leadsTo Tryz.f514 = [422, 502] := by kernel_rfl
theorem ip514 : inP Tryz.f514 = false := by kernel_rfl
theorem ed515 : Tryz.prog.leadsTo Tryz.f515 = [] := by kernel_rfl
theorem ip515 : inP Tryz.f515 = false := by kernel_rfl
theorem ed516 : Tryz.prog.leadsTo Tryz.f516 = [515, 515] := by kernel_rfl
theorem ip516 : inP Tryz.f516 = false := by kernel_rfl
theorem ed517 : Tryz.prog.leadsTo Tryz.f517 = [381, 378, 436, 438, 440] := by kernel_rfl
theorem ip517 : inP Tryz.f517 = false := by kernel_rfl
theorem ed518 : Tryz.prog.leadsTo Tryz.f518 = [193, 197, 262] := by kernel_rfl
theorem ip518 : inP Tryz.f518 = false := by kernel_rfl
theorem ed519 : Tryz.prog.leadsTo Tryz.f519 = [169, 331] := by kernel_rfl
theorem ip519 : inP Tryz.f519 = false := by kernel_rfl
theorem ed520 : Tryz.prog.leadsTo Tryz.f520 = [579, 580] := by kernel_rfl
theorem ip520 : inP Tryz.f520 = false := by kernel_rfl
theorem ed521 : Tryz.prog.leadsTo Tryz.f521 = [581, 582] := by kernel_rfl
theorem ip521 : inP Tryz.f521 = false := by kernel_rfl
theorem ed522 : Tryz.prog.leadsTo Tryz.f522 = [169, 331] := by kernel_rfl
theorem ip522 : inP Tryz.f522 = false := by kernel_rfl
theorem ed523 : Tryz.prog.leadsTo Tryz.f523 = [201, 583] := by kernel_rfl
theorem ip523 : inP Tryz.f523 = false := by kernel_rfl
theorem ed524 : Tryz.prog.leadsTo Tryz.f524 = [169, 399, 584, 521, 585] := by kernel_rfl
theorem ip524 : inP Tryz.f524 = false := by kernel_rfl
theorem ed525 : Tryz.prog.leadsTo Tryz.f525 = [204, 586, 571, 572] := by kernel_rfl
theorem ip525 : inP Tryz.f525 = false := by kernel_rfl
theorem ed526 : Tryz.prog.leadsTo Tryz.f526 = [204, 588, 587] := by kernel_rfl
theorem ip526 : inP Tryz.f526 = false := by kernel_rfl
theorem ed527 : Tryz.prog.leadsTo Tryz.f527 = [590, 589, 580] := by kernel_rfl
theorem ip527 : inP Tryz.f527 = false := by kernel_rfl
theorem ed528 : Tryz.prog.leadsTo Tryz.f528 = [590, 591, 580] := by kernel_rfl
theorem ip528 : inP Tryz.f528 = false := by kernel_rfl
theorem ed529 : Tryz.prog.leadsTo Tryz.f529 = [580] := by kernel_rfl
theorem ip529 : inP Tryz.f529 = false := by kernel_rfl
theorem ed530 : Tryz.prog.leadsTo Tryz.f530 = [579, 580] := by kernel_rfl
theorem ip530 : inP Tryz.f530 = false := by kernel_rfl
theorem ed531 : Tryz.prog.leadsTo Tryz.f531 = [] := by kernel_rfl
theorem ip531 : inP Tryz.f531 = false := by kernel_rfl
theorem ed532 : Tryz.prog.leadsTo Tryz.f532 = [62] := by kernel_rfl
theorem ip532 : inP Tryz.f532 = false := by kernel_rfl
theorem ed533 : Tryz.prog.leadsTo Tryz.f533 = [592] := by kernel_rfl
theorem ip533 : inP Tryz.f533 = false := by kernel_rfl
theorem ed534 : Tryz.prog.leadsTo Tryz.f534 = [] := by kernel_rfl
theorem ip534 : inP Tryz.f534 = false := by kernel_rfl
theorem ed535 : Tryz.prog.leadsTo Tryz.f535 = [593] := by kernel_rfl
theorem ip535 : inP Tryz.f535 = false := by kernel_rfl
theorem ed536 : Tryz.prog.leadsTo Tryz.f536 = [] := by kernel_rfl
theorem ip536 : inP Tryz.f536 = false := by kernel_rfl
theorem ed537 : Tryz.prog.leadsTo Tryz.f537 = [] := by kernel_rfl
theorem ip537 : inP Tryz.f537 = false := by kernel_rfl
theorem ed538 : Tryz.prog.leadsTo Tryz.f538 = [594] := by kernel_rfl
theorem ip538 : inP Tryz.f538 = false := by kernel_rfl
theorem ed539 : Tryz.prog.leadsTo Tryz.f539 = [] := by kernel_rfl
theorem ip539 : inP Tryz.f539 = false := by kernel_rfl
theorem ed540 : Tryz.prog.leadsTo Tryz.f540 = [595] := by kernel_rfl
theorem ip540 : inP Tryz.f540 = false := by kernel_rfl
theorem ed541 : Tryz.prog.leadsTo Tryz.f541 = [] := by kernel_rfl
theorem ip541 : inP Tryz.f541 = false := by kernel_rfl
theorem ed542 : Tryz.prog.leadsTo Tryz.f542 = [243] := by kernel_rfl
theorem ip542 : inP Tryz.f542 = false := by kernel_rfl
theorem ed543 : Tryz.prog.leadsTo Tryz.f543 = [243] := by kernel_rfl
theorem ip543 : inP Tryz.f543 = false := by kernel_rfl
theorem ed544 : Tryz.prog.leadsTo Tryz.f544 = [243] := by kernel_rfl
theorem ip544 : inP Tryz.f544 = false := by kernel_rfl
theorem ed545 : Tryz.prog.leadsTo Tryz.f545 = [133, 245] := by kernel_rfl
theorem ip545 : inP Tryz.f545 = false := by kernel_rfl
theorem ed546 : Tryz.prog.leadsTo Tryz.f546 = [245, 596, 259, 408, 259, 215] := by kernel_rfl
theorem ip546 : inP Tryz.f546 = false := by kernel_rfl
theorem ed547 : Tryz.prog.leadsTo Tryz.f547 = [597] := by kernel_rfl
theorem ip547 : inP Tryz.f547 = false := by kernel_rfl
theorem ed548 : Tryz.prog.leadsTo Tryz.f548 = [] := by kernel_rfl
theorem ip548 : inP Tryz.f548 = false := by kernel_rfl
theorem ed549 : Tryz.prog.leadsTo Tryz.f549 = [] := by kernel_rfl
theorem ip549 : inP Tryz.f549 = false := by kernel_rfl
end Go.Proofs.YtjdebeibhnjbgaaGreat

/- A table of calls; no conditions. -/
namespace Go.Proofs.YtjdebeibhnjbgaaGreat
open Go Go.Proofs.Rn
theorem ed550 : Tryz.prog.leadsTo Tryz.f550 = [] := by kernel_rfl
theorem ip550 : inP Tryz.f550 = false := by kernel_rfl
theorem ed551 : Tryz.prog.leadsTo Tryz.f551 = [] := by kernel_rfl
theorem ip551 : inP Tryz.f551 = false := by kernel_rfl
theorem ed552 : Tryz.prog.leadsTo Tryz.f552 = [] := by kernel_rfl
theorem ip552 : inP Tryz.f552 = false := by kernel_rfl
theorem ed553 : Tryz.prog.leadsTo Tryz.f553 = [] := by kernel_rfl
theorem ip553 : inP Tryz.f553 = false := by kernel_rfl
theorem ed554 : Tryz.prog.leadsTo Tryz.f554 = [598, 598] := by kernel_rfl
theorem ip554 : inP Tryz.f554 = false := by kernel_rfl
theorem ed555 : Tryz.prog.leadsTo Tryz.f555 = [599, 599] := by kernel_rfl
theorem ip555 : inP Tryz.f555 = false := by kernel_rfl
theorem ed556 : Tryz.prog.leadsTo Tryz.f556 = [473, 601, 600] := by kernel_rfl
theorem ip556 : inP Tryz.f556 = false := by kernel_rfl
theorem ed557 : Tryz.prog.leadsTo Tryz.f557 = [473] := by kernel_rfl
theorem ip557 : inP Tryz.f557 = false := by kernel_rfl
theorem ed558 : Tryz.prog.leadsTo Tryz.f558 = [602, 602, 603, 603] := by kernel_rfl
theorem ip558 : inP Tryz.f558 = false := by kernel_rfl
theorem ed559 : Tryz.prog.leadsTo Tryz.f559 = [604] := by kernel_rfl
theorem ip559 : inP Tryz.f559 = false := by kernel_rfl
theorem ed560 : Tryz.prog.leadsTo Tryz.f560 = [] := by kernel_rfl
theorem ip560 : inP Tryz.f560 = false := by kernel_rfl
theorem ed561 : Tryz.prog.leadsTo Tryz.f561 = [605] := by kernel_rfl
theorem ip561 : inP Tryz.f561 = false := by kernel_rfl
theorem ed562 : Tryz.prog.leadsTo Tryz.f562 = [559, 606, 607] := by kernel_rfl
theorem ip562 : inP Tryz.f562 = false := by kernel_rfl
theorem ed563 : Tryz.prog.leadsTo Tryz.f563 = [608, 610, 609] := by kernel_rfl
theorem ip563 : inP Tryz.f563 = false := by kernel_rfl
theorem ed564 : Tryz.prog.leadsTo Tryz.f564 = [] := by kernel_rfl
theorem ip564 : inP Tryz.f564 = false := by kernel_rfl
theorem ed565 : Tryz.prog.leadsTo Tryz.f565 = [608, 611, 609] := by kernel_rfl
theorem ip565 : inP Tryz.f565 = false := by kernel_rfl
theorem ed566 : Tryz.prog.leadsTo Tryz.f566 = [567] := by kernel_rfl
theorem ip566 : inP Tryz.f566 = false := by kernel_rfl
theorem ed567 : Tryz.prog.leadsTo Tryz.f567 = [612, 614, 613] := by kernel_rfl
theorem ip567 : inP Tryz.f567 = false := by kernel_rfl
theorem ed568 : Tryz.prog.leadsTo Tryz.f568 = [498] := by kernel_rfl
theorem ip568 : inP Tryz.f568 = false := by kernel_rfl
theorem ed569 : Tryz.prog.leadsTo Tryz.f569 = [615, 616, 616] := by kernel_rfl
theorem ip569 : inP Tryz.f569 = false := by kernel_rfl
theorem ed570 : Tryz.prog.leadsTo Tryz.f570 = [617, 618] := by kernel_rfl
theorem ip570 : inP Tryz.f570 = false := by kernel_rfl
theorem ed571 : Tryz.prog.leadsTo Tryz.f571 = [] := by kernel_rfl
theorem ip571 : inP Tryz.f571 = false := by kernel_rfl
theorem ed572 : Tryz.prog.leadsTo Tryz.f572 = [] := by kernel_rfl
theorem ip572 : inP Tryz.f572 = false := by kernel_rfl
theorem ed573 : Tryz.prog.leadsTo Tryz.f573 = [] := by kernel_rfl
theorem ip573 : inP Tryz.f573 = false := by kernel_rfl
theorem ed574 : Tryz.prog.leadsTo Tryz.f574 = [619, 620, 621, 622, 623, 624, 625, 626, 627, 574, 574] := by kernel_rfl
theorem ip574 : inP Tryz.f574 = false := by kernel_rfl
theorem ed575 : Tryz.prog.leadsTo Tryz.f575 = [628, 629, 630, 631, 632, 633, 634, 635, 636, 575, 575] := by kernel_rfl
theorem ip575 : inP Tryz.f575 = false := by kernel_rfl
theorem ed576 : Tryz.prog.leadsTo Tryz.f576 = [637] := by kernel_rfl
theorem ip576 : inP Tryz.f576 = false := by kernel_rfl
theorem ed577 : Tryz.prog.leadsTo Tryz.f577 = [193, 197, 262] := by kernel_rfl
theorem ip577 : inP Tryz.f577 = false := by kernel_rfl
theorem ed578 : Tryz.prog.leadsTo Tryz.f578 = [417] := by kernel_rfl
theorem ip578 : inP Tryz.f578 = false := by kernel_rfl
theorem ed579 : Tryz.prog.leadsTo Tryz.f579 = [272, 638] := by kernel_rfl
theorem ip579 : inP Tryz.f579 = false := by kernel_rfl
theorem ed580 : Tryz.prog.leadsTo Tryz.f580 = [] := by kernel_rfl
theorem ip580 : inP Tryz.f580 = false := by kernel_rfl
theorem ed581 : Tryz.prog.leadsTo Tryz.f581 = [201, 639] := by kernel_rfl
theorem ip581 : inP Tryz.f581 = false := by kernel_rfl
theorem ed582 : Tryz.prog.leadsTo Tryz.f582 = [201, 365, 401, 370, 639, 277] := by kernel_rfl
theorem ip582 : inP Tryz.f582 = false := by kernel_rfl
theorem ed583 : Tryz.prog.leadsTo Tryz.f583 = [334, 368, 640, 641, 374] := by kernel_rfl
theorem ip583 : inP Tryz.f583 = false := by kernel_rfl
theorem ed584 : Tryz.prog.leadsTo Tryz.f584 = [272, 590, 642, 580] := by kernel_rfl
theorem ip584 : inP Tryz.f584 = false := by kernel_rfl
theorem ed585 : Tryz.prog.leadsTo Tryz.f585 = [204, 488, 395, 587, 643] := by kernel_rfl
theorem ip585 : inP Tryz.f585 = false := by kernel_rfl
theorem ed586 : Tryz.prog.leadsTo Tryz.f586 = [348] := by kernel_rfl
theorem ip586 : inP Tryz.f586 = false := by kernel_rfl
theorem ed587 : Tryz.prog.leadsTo Tryz.f587 = [] := by kernel_rfl
theorem ip587 : inP Tryz.f587 = false := by kernel_rfl
theorem ed588 : Tryz.prog.leadsTo Tryz.f588 = [] := by kernel_rfl
theorem ip588 : inP Tryz.f588 = false := by kernel_rfl
theorem ed589 : Tryz.prog.leadsTo Tryz.f589 = [644, 645] := by kernel_rfl
theorem ip589 : inP Tryz.f589 = false := by kernel_rfl
theorem ed590 : Tryz.prog.leadsTo Tryz.f590 = [] := by kernel_rfl
theorem ip590 : inP Tryz.f590 = false := by kernel_rfl
theorem ed591 : Tryz.prog.leadsTo Tryz.f591 = [644, 638] := by kernel_rfl
theorem ip591 : inP Tryz.f591 = false := by kernel_rfl
theorem ed592 : Tryz.prog.leadsTo Tryz.f592 = [647, 646] := by kernel_rfl
theorem ip592 : inP Tryz.f592 = false := by kernel_rfl
theorem ed593 : Tryz.prog.leadsTo Tryz.f593 = [] := by kernel_rfl
theorem ip593 : inP Tryz.f593 = false := by kernel_rfl
theorem ed594 : Tryz.prog.leadsTo Tryz.f594 = [] := by kernel_rfl
theorem ip594 : inP Tryz.f594 = false := by kernel_rfl
theorem ed595 : Tryz.prog.leadsTo Tryz.f595 = [] := by kernel_rfl
theorem ip595 : inP Tryz.f595 = false := by kernel_rfl
theorem ed596 : Tryz.prog.leadsTo Tryz.f596 = [319, 132, 649, 337] := by kernel_rfl
theorem ip596 : inP Tryz.f596 = false := by kernel_rfl
theorem ed597 : Tryz.prog.leadsTo Tryz.f597 = [] := by kernel_rfl
theorem ip597 : inP Tryz.f597 = false := by kernel_rfl
theorem ed598 : Tryz.prog.leadsTo Tryz.f598 = [] := by kernel_rfl
theorem ip598 : inP Tryz.f598 = false := by kernel_rfl
theorem ed599 : Tryz.prog.leadsTo Tryz.f599 = [] := by kernel_rfl
theorem ip599 : inP Tryz.f599 = false := by kernel_rfl
theorem ed600 : Tryz.prog.leadsTo Tryz.f600 = [] := by kernel_rfl
theorem ip600 : inP Tryz.f600 = false := by kernel_rfl
theorem ed601 : Tryz.prog.leadsTo Tryz.f601 = [] := by kernel_rfl
theorem ip601 : inP Tryz.f601 = false := by kernel_rfl
theorem ed602 : Tryz.prog.leadsTo Tryz.f602 = [] := by kernel_rfl
theorem ip602 : inP Tryz.f602 = false := by kernel_rfl
theorem ed603 : Tryz.prog.leadsTo Tryz.f603 = [650, 603, 603] := by kernel_rfl
theorem ip603 : inP Tryz.f603 = false := by kernel_rfl
theorem ed604 : Tryz.prog.leadsTo Tryz.f604 = [291] := by kernel_rfl
theorem ip604 : inP Tryz.f604 = false := by kernel_rfl
theorem ed605 : Tryz.prog.leadsTo Tryz.f605 = [651] := by kernel_rfl
theorem ip605 : inP Tryz.f605 = false := by kernel_rfl
theorem ed606 : Tryz.prog.leadsTo Tryz.f606 = [185, 186, 191] := by kernel_rfl
theorem ip606 : inP Tryz.f606 = false := by kernel_rfl
theorem ed607 : Tryz.prog.leadsTo Tryz.f607 = [185, 186, 186, 186, 352, 191, 454] := by kernel_rfl
theorem ip607 : inP Tryz.f607 = false := by kernel_rfl
theorem ed608 : Tryz.prog.leadsTo Tryz.f608 = [652] := by kernel_rfl
theorem ip608 : inP Tryz.f608 = false := by kernel_rfl
theorem ed609 : Tryz.prog.leadsTo Tryz.f609 = [653, 654] := by kernel_rfl
theorem ip609 : inP Tryz.f609 = false := by kernel_rfl
theorem ed610 : Tryz.prog.leadsTo Tryz.f610 = [655] := by kernel_rfl
theorem ip610 : inP Tryz.f610 = false := by kernel_rfl
theorem ed611 : Tryz.prog.leadsTo Tryz.f611 = [655] := by kernel_rfl
theorem ip611 : inP Tryz.f611 = false := by kernel_rfl
theorem ed612 : Tryz.prog.leadsTo Tryz.f612 = [] := by kernel_rfl
theorem ip612 : inP Tryz.f612 = false := by kernel_rfl
theorem ed613 : Tryz.prog.leadsTo Tryz.f613 = [] := by kernel_rfl
theorem ip613 : inP Tryz.f613 = false := by kernel_rfl
theorem ed614 : Tryz.prog.leadsTo Tryz.f614 = [] := by kernel_rfl
theorem ip614 : inP Tryz.f614 = false := by kernel_rfl
theorem ed615 : Tryz.prog.leadsTo Tryz.f615 = [598, 598] := by kernel_rfl
theorem ip615 : inP Tryz.f615 = false := by kernel_rfl
theorem ed616 : Tryz.prog.leadsTo Tryz.f616 = [] := by kernel_rfl
theorem ip616 : inP Tryz.f616 = false := by kernel_rfl
theorem ed617 : Tryz.prog.leadsTo Tryz.f617 = [] := by kernel_rfl
theorem ip617 : inP Tryz.f617 = false := by kernel_rfl
theorem ed618 : Tryz.prog.leadsTo Tryz.f618 = [] := by kernel_rfl
theorem ip618 : inP Tryz.f618 = false := by kernel_rfl
theorem ed619 : Tryz.prog.leadsTo Tryz.f619 = [625] := by kernel_rfl
theorem ip619 : inP Tryz.f619 = false := by kernel_rfl
theorem ed620 : Tryz.prog.leadsTo Tryz.f620 = [656, 656] := by kernel_rfl
theorem ip620 : inP Tryz.f620 = false := by kernel_rfl
theorem ed621 : Tryz.prog.leadsTo Tryz.f621 = [509, 510] := by kernel_rfl
theorem ip621 : inP Tryz.f621 = false := by kernel_rfl
theorem ed622 : Tryz.prog.leadsTo Tryz.f622 = [657, 657, 657, 658] := by kernel_rfl
theorem ip622 : inP Tryz.f622 = false := by kernel_rfl
theorem ed623 : Tryz.prog.leadsTo Tryz.f623 = [] := by kernel_rfl
theorem ip623 : inP Tryz.f623 = false := by kernel_rfl
theorem ed624 : Tryz.prog.leadsTo Tryz.f624 = [625, 625, 625] := by kernel_rfl
theorem ip624 : inP Tryz.f624 = false := by kernel_rfl
theorem ed625 : Tryz.prog.leadsTo Tryz.f625 = [659, 659] := by kernel_rfl
theorem ip625 : inP Tryz.f625 = false := by kernel_rfl
theorem ed626 : Tryz.prog.leadsTo Tryz.f626 = [625, 625] := by kernel_rfl
theorem ip626 : inP Tryz.f626 = false := by kernel_rfl
theorem ed627 : Tryz.prog.leadsTo Tryz.f627 = [625, 625, 625, 625] := by kernel_rfl
theorem ip627 : inP Tryz.f627 = false := by kernel_rfl
theorem ed628 : Tryz.prog.leadsTo Tryz.f628 = [634] := by kernel_rfl
theorem ip628 : inP Tryz.f628 = false := by kernel_rfl
theorem ed629 : Tryz.prog.leadsTo Tryz.f629 = [660, 660] := by kernel_rfl
theorem ip629 : inP Tryz.f629 = false := by kernel_rfl
theorem ed630 : Tryz.prog.leadsTo Tryz.f630 = [509, 510] := by kernel_rfl
theorem ip630 : inP Tryz.f630 = false := by kernel_rfl
theorem ed631 : Tryz.prog.leadsTo Tryz.f631 = [661, 661, 661, 662] := by kernel_rfl
theorem ip631 : inP Tryz.f631 = false := by kernel_rfl
theorem ed632 : Tryz.prog.leadsTo Tryz.f632 = [] := by kernel_rfl
theorem ip632 : inP Tryz.f632 = false := by kernel_rfl
theorem ed633 : Tryz.prog.leadsTo Tryz.f633 = [634, 634, 634] := by kernel_rfl
theorem ip633 : inP Tryz.f633 = false := by kernel_rfl
theorem ed634 : Tryz.prog.leadsTo Tryz.f634 = [599, 599] := by kernel_rfl
theorem ip634 : inP Tryz.f634 = false := by kernel_rfl
theorem ed635 : Tryz.prog.leadsTo Tryz.f635 = [634, 634] := by kernel_rfl
theorem ip635 : inP Tryz.f635 = false := by kernel_rfl
theorem ed636 : Tryz.prog.leadsTo Tryz.f636 = [634, 634, 634, 634] := by kernel_rfl
theorem ip636 : inP Tryz.f636 = false := by kernel_rfl
theorem ed637 : Tryz.prog.leadsTo Tryz.f637 = [454, 193, 317, 197, 262] := by kernel_rfl
theorem ip637 : inP Tryz.f637 = false := by kernel_rfl
theorem ed638 : Tryz.prog.leadsTo Tryz.f638 = [400] := by kernel_rfl
theorem ip638 : inP Tryz.f638 = false := by kernel_rfl
theorem ed639 : Tryz.prog.leadsTo Tryz.f639 = [369, 663] := by kernel_rfl
theorem ip639 : inP Tryz.f639 = false := by kernel_rfl
theorem ed640 : Tryz.prog.leadsTo Tryz.f640 = [] := by kernel_rfl
theorem ip640 : inP Tryz.f640 = false := by kernel_rfl
theorem ed641 : Tryz.prog.leadsTo Tryz.f641 = [664, 665, 665] := by kernel_rfl
theorem ip641 : inP Tryz.f641 = false := by kernel_rfl
theorem ed642 : Tryz.prog.leadsTo Tryz.f642 = [272, 638] := by kernel_rfl
theorem ip642 : inP Tryz.f642 = false := by kernel_rfl
theorem ed643 : Tryz.prog.leadsTo Tryz.f643 = [348] := by kernel_rfl
theorem ip643 : inP Tryz.f643 = false := by kernel_rfl
theorem ed644 : Tryz.prog.leadsTo Tryz.f644 = [] := by kernel_rfl
theorem ip644 : inP Tryz.f644 = false := by kernel_rfl
theorem ed645 : Tryz.prog.leadsTo Tryz.f645 = [492, 666] := by kernel_rfl
theorem ip645 : inP Tryz.f645 = false := by kernel_rfl
theorem ed646 : Tryz.prog.leadsTo Tryz.f646 = [667, 668, 669] := by kernel_rfl
theorem ip646 : inP Tryz.f646 = false := by kernel_rfl
theorem ed647 : Tryz.prog.leadsTo Tryz.f647 = [648] := by kernel_rfl
theorem ip647 : inP Tryz.f647 = false := by kernel_rfl
theorem ed648 : Tryz.prog.leadsTo Tryz.f648 = [] := by kernel_rfl
theorem ip648 : inP Tryz.f648 = false := by kernel_rfl
theorem ed649 : Tryz.prog.leadsTo Tryz.f649 = [281, 212, 483, 385, 483, 212, 483, 576, 577, 442, 477, 484] := by kernel_rfl
theorem ip649 : inP Tryz.f649 = false := by kernel_rfl
theorem ed650 : Tryz.prog.leadsTo Tryz.f650 = [670, 670, 670] := by kernel_rfl
theorem ip650 : inP Tryz.f650 = false := by kernel_rfl
theorem ed651 : Tryz.prog.leadsTo Tryz.f651 = [] := by kernel_rfl
theorem ip651 : inP Tryz.f651 = true := by kernel_rfl
theorem ed652 : Tryz.prog.leadsTo Tryz.f652 = [] := by kernel_rfl
theorem ip652 : inP Tryz.f652 = true := by kernel_rfl
theorem ed653 : Tryz.prog.leadsTo Tryz.f653 = [671] := by kernel_rfl
theorem ip653 : inP Tryz.f653 = false := by kernel_rfl
theorem ed654 : Tryz.prog.leadsTo Tryz.f654 = [672, 673, 653, 655] := by kernel_rfl
theorem ip654 : inP Tryz.f654 = false := by kernel_rfl
theorem ed655 : Tryz.prog.leadsTo Tryz.f655 = [675, 674] := by kernel_rfl
theorem ip655 : inP Tryz.f655 = false := by kernel_rfl
theorem ed656 : Tryz.prog.leadsTo Tryz.f656 = [625, 625] := by kernel_rfl
theorem ip656 : inP Tryz.f656 = false := by kernel_rfl
theorem ed657 : Tryz.prog.leadsTo Tryz.f657 = [658] := by kernel_rfl
theorem ip657 : inP Tryz.f657 = false := by kernel_rfl
theorem ed658 : Tryz.prog.leadsTo Tryz.f658 = [676, 676, 676] := by kernel_rfl
theorem ip658 : inP Tryz.f658 = false := by kernel_rfl
theorem ed659 : Tryz.prog.leadsTo Tryz.f659 = [] := by kernel_rfl
theorem ip659 : inP Tryz.f659 = false := by kernel_rfl
end Go.Proofs.YtjdebeibhnjbgaaGreat

/- A table of calls; no conditions. -/
namespace Go.Proofs.YtjdebeibhnjbgaaGreat
open Go Go.Proofs.Rn
theorem ed660 : Tryz.prog.leadsTo Tryz.f660 = [634, 634] := by kernel_rfl
theorem ip660 : inP Tryz.f660 = false := by kernel_rfl
theorem ed661 : Tryz.prog.leadsTo Tryz.f661 = [662] := by kernel_rfl
theorem ip661 : inP Tryz.f661 = false := by kernel_rfl
theorem ed662 : Tryz.prog.leadsTo Tryz.f662 = [677, 677, 677] := by kernel_rfl
theorem ip662 : inP Tryz.f662 = false := by kernel_rfl
theorem ed663 : Tryz.prog.leadsTo Tryz.f663 = [556] := by kernel_rfl
theorem ip663 : inP Tryz.f663 = false := by kernel_rfl
theorem ed664 : Tryz.prog.leadsTo Tryz.f664 = [371] := by kernel_rfl
theorem ip664 : inP Tryz.f664 = false := by kernel_rfl
theorem ed665 : Tryz.prog.leadsTo Tryz.f665 = [473, 373] := by kernel_rfl
theorem ip665 : inP Tryz.f665 = false := by kernel_rfl
theorem ed666 : Tryz.prog.leadsTo Tryz.f666 = [492, 493, 493, 496, 496, 678] := by kernel_rfl
theorem ip666 : inP Tryz.f666 = false := by kernel_rfl
theorem ed667 : Tryz.prog.leadsTo Tryz.f667 = [679] := by kernel_rfl
theorem ip667 : inP Tryz.f667 = false := by kernel_rfl
theorem ed668 : Tryz.prog.leadsTo Tryz.f668 = [680] := by kernel_rfl
theorem ip668 : inP Tryz.f668 = false := by kernel_rfl
theorem ed669 : Tryz.prog.leadsTo Tryz.f669 = [681] := by kernel_rfl
theorem ip669 : inP Tryz.f669 = false := by kernel_rfl
theorem ed670 : Tryz.prog.leadsTo Tryz.f670 = [] := by kernel_rfl
theorem ip670 : inP Tryz.f670 = false := by kernel_rfl
theorem ed671 : Tryz.prog.leadsTo Tryz.f671 = [] := by kernel_rfl
theorem ip671 : inP Tryz.f671 = true := by kernel_rfl
theorem ed672 : Tryz.prog.leadsTo Tryz.f672 = [682] := by kernel_rfl
theorem ip672 : inP Tryz.f672 = false := by kernel_rfl
theorem ed673 : Tryz.prog.leadsTo Tryz.f673 = [683] := by kernel_rfl
theorem ip673 : inP Tryz.f673 = false := by kernel_rfl
theorem ed674 : Tryz.prog.leadsTo Tryz.f674 = [] := by kernel_rfl
theorem ip674 : inP Tryz.f674 = true := by kernel_rfl
theorem ed675 : Tryz.prog.leadsTo Tryz.f675 = [] := by kernel_rfl
theorem ip675 : inP Tryz.f675 = false := by kernel_rfl
theorem ed676 : Tryz.prog.leadsTo Tryz.f676 = [625] := by kernel_rfl
theorem ip676 : inP Tryz.f676 = false := by kernel_rfl
theorem ed677 : Tryz.prog.leadsTo Tryz.f677 = [634] := by kernel_rfl
theorem ip677 : inP Tryz.f677 = false := by kernel_rfl
theorem ed678 : Tryz.prog.leadsTo Tryz.f678 = [612, 684] := by kernel_rfl
theorem ip678 : inP Tryz.f678 = false := by kernel_rfl
theorem ed679 : Tryz.prog.leadsTo Tryz.f679 = [] := by kernel_rfl
theorem ip679 : inP Tryz.f679 = false := by kernel_rfl
theorem ed680 : Tryz.prog.leadsTo Tryz.f680 = [] := by kernel_rfl
theorem ip680 : inP Tryz.f680 = true := by kernel_rfl
theorem ed681 : Tryz.prog.leadsTo Tryz.f681 = [] := by kernel_rfl
theorem ip681 : inP Tryz.f681 = true := by kernel_rfl
theorem ed682 : Tryz.prog.leadsTo Tryz.f682 = [685, 686, 687, 688, 689] := by kernel_rfl
theorem ip682 : inP Tryz.f682 = true := by kernel_rfl
theorem ed683 : Tryz.prog.leadsTo Tryz.f683 = [690, 685, 691, 692, 687] := by kernel_rfl
theorem ip683 : inP Tryz.f683 = true := by kernel_rfl
theorem ed684 : Tryz.prog.leadsTo Tryz.f684 = [547, 693] := by kernel_rfl
theorem ip684 : inP Tryz.f684 = false := by kernel_rfl
theorem ed685 : Tryz.prog.leadsTo Tryz.f685 = [] := by kernel_rfl
theorem ip685 : inP Tryz.f685 = true := by kernel_rfl
theorem ed686 : Tryz.prog.leadsTo Tryz.f686 = [] := by kernel_rfl
theorem ip686 : inP Tryz.f686 = true := by kernel_rfl
theorem ed687 : Tryz.prog.leadsTo Tryz.f687 = [] := by kernel_rfl
theorem ip687 : inP Tryz.f687 = true := by kernel_rfl
theorem ed688 : Tryz.prog.leadsTo Tryz.f688 = [] := by kernel_rfl
theorem ip688 : inP Tryz.f688 = true := by kernel_rfl
theorem ed689 : Tryz.prog.leadsTo Tryz.f689 = [694, 686, 695, 696, 686, 697, 698, 697, 696, 691, 687, 688] := by kernel_rfl
theorem ip689 : inP Tryz.f689 = true := by kernel_rfl
theorem ed690 : Tryz.prog.leadsTo Tryz.f690 = [] := by kernel_rfl
theorem ip690 : inP Tryz.f690 = true := by kernel_rfl
theorem ed691 : Tryz.prog.leadsTo Tryz.f691 = [] := by kernel_rfl
theorem ip691 : inP Tryz.f691 = true := by kernel_rfl
theorem ed692 : Tryz.prog.leadsTo Tryz.f692 = [699, 686, 700, 700] := by kernel_rfl
theorem ip692 : inP Tryz.f692 = true := by kernel_rfl
theorem ed693 : Tryz.prog.leadsTo Tryz.f693 = [] := by kernel_rfl
theorem ip693 : inP Tryz.f693 = false := by kernel_rfl
theorem ed694 : Tryz.prog.leadsTo Tryz.f694 = [] := by kernel_rfl
theorem ip694 : inP Tryz.f694 = true := by kernel_rfl
theorem ed695 : Tryz.prog.leadsTo Tryz.f695 = [] := by kernel_rfl
theorem ip695 : inP Tryz.f695 = true := by kernel_rfl
theorem ed696 : Tryz.prog.leadsTo Tryz.f696 = [] := by kernel_rfl
theorem ip696 : inP Tryz.f696 = true := by kernel_rfl
theorem ed697 : Tryz.prog.leadsTo Tryz.f697 = [] := by kernel_rfl
theorem ip697 : inP Tryz.f697 = true := by kernel_rfl
theorem ed698 : Tryz.prog.leadsTo Tryz.f698 = [] := by kernel_rfl
theorem ip698 : inP Tryz.f698 = true := by kernel_rfl
theorem ed699 : Tryz.prog.leadsTo Tryz.f699 = [] := by kernel_rfl
theorem ip699 : inP Tryz.f699 = true := by kernel_rfl
theorem ed700 : Tryz.prog.leadsTo Tryz.f700 = [] := by kernel_rfl
theorem ip700 : inP Tryz.f700 = true := by kernel_rfl
theorem ed701 : Tryz.prog.leadsTo Tryz.f701 = [] := by kernel_rfl
theorem ip701 : inP Tryz.f701 = true := by kernel_rfl
theorem ed702 : Tryz.prog.leadsTo Tryz.f702 = [] := by kernel_rfl
theorem ip702 : inP Tryz.f702 = true := by kernel_rfl
theorem ed703 : Tryz.prog.leadsTo Tryz.f703 = [] := by kernel_rfl
theorem ip703 : inP Tryz.f703 = true := by kernel_rfl
theorem ed704 : Tryz.prog.leadsTo Tryz.f704 = [] := by kernel_rfl
theorem ip704 : inP Tryz.f704 = true := by kernel_rfl
theorem ed705 : Tryz.prog.leadsTo Tryz.f705 = [] := by kernel_rfl
theorem ip705 : inP Tryz.f705 = true := by kernel_rfl
theorem ed706 : Tryz.prog.leadsTo Tryz.f706 = [] := by kernel_rfl
theorem ip706 : inP Tryz.f706 = true := by kernel_rfl
theorem ed707 : Tryz.prog.leadsTo Tryz.f707 = [] := by kernel_rfl
theorem ip707 : inP Tryz.f707 = true := by kernel_rfl
theorem ed708 : Tryz.prog.leadsTo Tryz.f708 = [] := by kernel_rfl
theorem ip708 : inP Tryz.f708 = true := by kernel_rfl
theorem ed709 : Tryz.prog.leadsTo Tryz.f709 = [] := by kernel_rfl
theorem ip709 : inP Tryz.f709 = true := by kernel_rfl
theorem ed710 : Tryz.prog.leadsTo Tryz.f710 = [] := by kernel_rfl
theorem ip710 : inP Tryz.f710 = true := by kernel_rfl
theorem ed711 : Tryz.prog.leadsTo Tryz.f711 = [] := by kernel_rfl
theorem ip711 : inP Tryz.f711 = true := by kernel_rfl
theorem ed712 : Tryz.prog.leadsTo Tryz.f712 = [] := by kernel_rfl
theorem ip712 : inP Tryz.f712 = true := by kernel_rfl
theorem ed713 : Tryz.prog.leadsTo Tryz.f713 = [] := by kernel_rfl
theorem ip713 : inP Tryz.f713 = true := by kernel_rfl
theorem ed714 : Tryz.prog.leadsTo Tryz.f714 = [] := by kernel_rfl
theorem ip714 : inP Tryz.f714 = true := by kernel_rfl
theorem ed715 : Tryz.prog.leadsTo Tryz.f715 = [] := by kernel_rfl
theorem ip715 : inP Tryz.f715 = true := by kernel_rfl
theorem ed716 : Tryz.prog.leadsTo Tryz.f716 = [] := by kernel_rfl
theorem ip716 : inP Tryz.f716 = true := by kernel_rfl
theorem ed717 : Tryz.prog.leadsTo Tryz.f717 = [] := by kernel_rfl
theorem ip717 : inP Tryz.f717 = true := by kernel_rfl
theorem ed718 : Tryz.prog.leadsTo Tryz.f718 = [] := by kernel_rfl
theorem ip718 : inP Tryz.f718 = true := by kernel_rfl
theorem ed719 : Tryz.prog.leadsTo Tryz.f719 = [] := by kernel_rfl
theorem ip719 : inP Tryz.f719 = true := by kernel_rfl
theorem ed720 : Tryz.prog.leadsTo Tryz.f720 = [] := by kernel_rfl
theorem ip720 : inP Tryz.f720 = true := by kernel_rfl
theorem ed721 : Tryz.prog.leadsTo Tryz.f721 = [] := by kernel_rfl
theorem ip721 : inP Tryz.f721 = true := by kernel_rfl
theorem ed722 : Tryz.prog.leadsTo Tryz.f722 = [] := by kernel_rfl
theorem ip722 : inP Tryz.f722 = true := by kernel_rfl
theorem ed723 : Tryz.prog.leadsTo Tryz.f723 = [] := by kernel_rfl
theorem ip723 : inP Tryz.f723 = true := by kernel_rfl
end Go.Proofs.YtjdebeibhnjbgaaGreat
