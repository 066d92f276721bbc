/- A runner's tables: types. -/
import Derived.Test.YtjdebeibhnjbgaaGreatBZp0
namespace Go.Proofs.YtjdebeibhnjbgaaGreat
open Go Go.Proofs.Rn
theorem ty134 : tyB Tryz.prog 134 ⟨3, 40, [.i .i64 0, nm, ns], (.st [(0, 3, 1), (1, 131, 1), (2, 132, 1)]), true⟩ = true := by decide +kernel
theorem ty135 : tyB Tryz.prog 135 ⟨1, 8, [nf], .fn, false⟩ = true := by decide +kernel
theorem ty136 : tyB Tryz.prog 136 ⟨3, 40, [.i .i64 0, .i .i64 0, ns], (.st [(0, 3, 1), (1, 3, 1), (2, 98, 1)]), true⟩ = true := by decide +kernel
theorem ty137 : tyB Tryz.prog 137 ⟨3, 40, [.i .i64 0, .i .i64 0, ns], (.st [(0, 3, 1), (1, 3, 1), (2, 98, 1)]), true⟩ = true := by decide +kernel
theorem ty138 : tyB Tryz.prog 138 ⟨1, 8, [nf], .fn, false⟩ = true := by decide +kernel
theorem ty139 : tyB Tryz.prog 139 ⟨1, 8, [nf], .fn, false⟩ = true := by decide +kernel
theorem ty140 : tyB Tryz.prog 140 ⟨1, 8, [nm], (.mp 9 198), false⟩ = true := by decide +kernel
theorem ty141 : tyB Tryz.prog 141 ⟨1, 8, [np], .ptr, false⟩ = true := by decide +kernel
theorem ty142 : tyB Tryz.prog 142 ⟨5, 40, [nm, .i .i64 0, .b false, .i .i64 0, np], (.st [(0, 140, 1), (1, 3, 1), (2, 4, 1), (3, 3, 1), (4, 141, 1)]), true⟩ = true := by decide +kernel
theorem ty143 : tyB Tryz.prog 143 ⟨5, 40, [nm, .i .i64 0, .b false, .i .i64 0, np], (.st [(0, 140, 1), (1, 3, 1), (2, 4, 1), (3, 3, 1), (4, 141, 1)]), true⟩ = true := by decide +kernel
theorem ty144 : tyB Tryz.prog 144 ⟨1, 8, [nf], .fn, false⟩ = true := by decide +kernel
theorem ty145 : tyB Tryz.prog 145 ⟨1, 8, [nf], .fn, false⟩ = true := by decide +kernel
theorem ty146 : tyB Tryz.prog 146 ⟨1, 8, [nf], .fn, false⟩ = true := by decide +kernel
theorem ty147 : tyB Tryz.prog 147 ⟨10, 80, [.i .i64 0, .i .u64 0, .i .u64 0, .i .i64 0, .i .i64 0, .i .i64 0, .i .i64 0, .i .i64 0, .i .i64 0, .i .i64 0], (.st [(0, 3, 1), (1, 100, 9)]), true⟩ = true := by decide +kernel
theorem ty148 : tyB Tryz.prog 148 ⟨10, 80, [.i .i64 0, .i .u64 0, .i .u64 0, .i .i64 0, .i .i64 0, .i .i64 0, .i .i64 0, .i .i64 0, .i .i64 0, .i .i64 0], (.st [(0, 3, 1), (1, 100, 9)]), true⟩ = true := by decide +kernel
theorem ty150 : tyB Tryz.prog 150 ⟨1, 8, [nf], .fn, false⟩ = true := by decide +kernel
theorem ty151 : tyB Tryz.prog 151 ⟨3, 24, [.i .i64 0, .i .i64 0, .i .i64 0], (.st [(0, 3, 1), (1, 3, 1), (2, 3, 1)]), true⟩ = true := by decide +kernel
theorem ty152 : tyB Tryz.prog 152 ⟨3, 24, [.i .i64 0, .i .i64 0, .i .i64 0], (.st [(0, 3, 1), (1, 3, 1), (2, 3, 1)]), true⟩ = true := by decide +kernel
theorem ty153 : tyB Tryz.prog 153 ⟨20, 240, [.i .i64 0, .i .i64 0, .i .i64 0, .i .u64 0, .i .u64 0, ns, .i .i64 0, .i .u64 0, .i .u64 0, .i .u64 0, .i .i64 0, .i .i64 0, .i .i64 0, ns, ns, .i .i64 0, ns, .i .i64 0, .i .i64 0, ns], (.st [(0, 152, 3), (3, 22, 1), (4, 22, 1), (5, 98, 1), (6, 30, 13), (19, 67, 1)]), true⟩ = true := by decide +kernel
theorem ty154 : tyB Tryz.prog 154 ⟨20, 240, [.i .i64 0, .i .i64 0, .i .i64 0, .i .u64 0, .i .u64 0, ns, .i .i64 0, .i .u64 0, .i .u64 0, .i .u64 0, .i .i64 0, .i .i64 0, .i .i64 0, ns, ns, .i .i64 0, ns, .i .i64 0, .i .i64 0, ns], (.st [(0, 152, 3), (3, 22, 1), (4, 22, 1), (5, 98, 1), (6, 30, 13), (19, 67, 1)]), true⟩ = true := by decide +kernel
theorem ty156 : tyB Tryz.prog 156 ⟨1, 8, [nf], .fn, false⟩ = true := by decide +kernel
theorem ty157 : tyB Tryz.prog 157 ⟨1, 8, [nf], .fn, false⟩ = true := by decide +kernel
theorem ty158 : tyB Tryz.prog 158 ⟨1, 8, [nf], .fn, false⟩ = true := by decide +kernel
theorem ty159 : tyB Tryz.prog 159 ⟨4, 48, [.i .i64 0, ns, .i .i64 0, .i .i64 0], (.st [(0, 3, 1), (1, 74, 1), (2, 3, 1), (3, 3, 1)]), true⟩ = true := by decide +kernel
theorem ty160 : tyB Tryz.prog 160 ⟨4, 48, [.i .i64 0, ns, .i .i64 0, .i .i64 0], (.st [(0, 3, 1), (1, 74, 1), (2, 3, 1), (3, 3, 1)]), true⟩ = true := by decide +kernel
theorem ty161 : tyB Tryz.prog 161 ⟨5, 56, [.i .i64 0, ns, .i .i64 0, .i .i64 0, .i .i64 0], (.st [(0, 160, 4), (4, 3, 1)]), true⟩ = true := by decide +kernel
theorem ty162 : tyB Tryz.prog 162 ⟨5, 56, [.i .i64 0, ns, .i .i64 0, .i .i64 0, .i .i64 0], (.st [(0, 160, 4), (4, 3, 1)]), true⟩ = true := by decide +kernel
theorem ty163 : tyB Tryz.prog 163 ⟨1, 8, [np], .ptr, false⟩ = true := by decide +kernel
theorem ty164 : tyB Tryz.prog 164 ⟨1, 24, [ns], (.sl 228), false⟩ = true := by decide +kernel
theorem ty165 : tyB Tryz.prog 165 ⟨1, 24, [ns], (.sl 273), false⟩ = true := by decide +kernel
theorem ty166 : tyB Tryz.prog 166 ⟨2, 16, [.i .u64 0, .i .u64 0], (.st [(0, 22, 1), (1, 22, 1)]), true⟩ = true := by decide +kernel
theorem ty167 : tyB Tryz.prog 167 ⟨16, 256, [.i .i64 0, ns, .i .i64 0, .i .i64 0, .i .i64 0, np, np, ns, ns, .i .u64 0, .i .u64 0, ns, ns, ns, ns, ns], (.st [(0, 162, 5), (5, 163, 1), (6, 71, 1), (7, 164, 1), (8, 165, 1), (9, 166, 2), (11, 127, 5)]), true⟩ = true := by decide +kernel
theorem ty168 : tyB Tryz.prog 168 ⟨16, 256, [.i .i64 0, ns, .i .i64 0, .i .i64 0, .i .i64 0, np, np, ns, ns, .i .u64 0, .i .u64 0, ns, ns, ns, ns, ns], (.st [(0, 162, 5), (5, 163, 1), (6, 71, 1), (7, 164, 1), (8, 165, 1), (9, 166, 2), (11, 127, 5)]), true⟩ = true := by decide +kernel
theorem ty169 : tyB Tryz.prog 169 ⟨1, 8, [nm], (.mp 22 3), false⟩ = true := by decide +kernel
theorem ty170 : tyB Tryz.prog 170 ⟨3, 40, [.i .i64 0, nm, ns], (.st [(0, 3, 1), (1, 169, 1), (2, 85, 1)]), true⟩ = true := by decide +kernel
theorem ty171 : tyB Tryz.prog 171 ⟨3, 40, [.i .i64 0, nm, ns], (.st [(0, 3, 1), (1, 169, 1), (2, 85, 1)]), true⟩ = true := by decide +kernel
theorem ty172 : tyB Tryz.prog 172 ⟨1, 8, [nf], .fn, false⟩ = true := by decide +kernel
theorem ty173 : tyB Tryz.prog 173 ⟨1, 8, [nf], .fn, false⟩ = true := by decide +kernel
theorem ty174 : tyB Tryz.prog 174 ⟨1, 8, [nf], .fn, false⟩ = true := by decide +kernel
theorem ty175 : tyB Tryz.prog 175 ⟨1, 8, [nf], .fn, false⟩ = true := by decide +kernel
theorem ty176 : tyB Tryz.prog 176 ⟨1, 8, [nf], .fn, false⟩ = true := by decide +kernel
theorem ty178 : tyB Tryz.prog 178 ⟨1, 8, [nf], .fn, false⟩ = true := by decide +kernel
theorem ty179 : tyB Tryz.prog 179 ⟨1, 8, [nf], .fn, false⟩ = true := by decide +kernel
theorem ty180 : tyB Tryz.prog 180 ⟨1, 8, [nf], .fn, false⟩ = true := by decide +kernel
theorem ty181 : tyB Tryz.prog 181 ⟨1, 8, [nf], .fn, false⟩ = true := by decide +kernel
theorem ty183 : tyB Tryz.prog 183 ⟨1, 8, [nf], .fn, false⟩ = true := by decide +kernel
theorem ty184 : tyB Tryz.prog 184 ⟨1, 8, [nf], .fn, false⟩ = true := by decide +kernel
theorem ty185 : tyB Tryz.prog 185 ⟨1, 8, [nf], .fn, false⟩ = true := by decide +kernel
theorem ty187 : tyB Tryz.prog 187 ⟨1, 8, [nf], .fn, false⟩ = true := by decide +kernel
theorem ty188 : tyB Tryz.prog 188 ⟨1, 8, [nf], .fn, false⟩ = true := by decide +kernel
theorem ty189 : tyB Tryz.prog 189 ⟨1, 8, [nf], .fn, false⟩ = true := by decide +kernel
theorem ty190 : tyB Tryz.prog 190 ⟨1, 2, [.i .u16 0], (.int .u16), false⟩ = true := by decide +kernel
theorem ty191 : tyB Tryz.prog 191 ⟨1, 4, [.i .u32 0], (.int .u32), false⟩ = true := by decide +kernel
theorem ty192 : tyB Tryz.prog 192 ⟨2, 8, [.i .u16 0, .i .u32 0], (.st [(0, 190, 1), (1, 191, 1)]), true⟩ = true := by decide +kernel
theorem ty193 : tyB Tryz.prog 193 ⟨2, 8, [.i .u16 0, .i .u32 0], (.st [(0, 190, 1), (1, 191, 1)]), true⟩ = true := by decide +kernel
theorem ty194 : tyB Tryz.prog 194 ⟨1, 8, [nf], .fn, false⟩ = true := by decide +kernel
theorem ty195 : tyB Tryz.prog 195 ⟨1, 24, [ns], (.sl 9), false⟩ = true := by decide +kernel
theorem ty196 : tyB Tryz.prog 196 ⟨1, 8, [nf], .fn, false⟩ = true := by decide +kernel
theorem ty197 : tyB Tryz.prog 197 ⟨2, 32, [ns, .i .i64 0], (.st [(0, 98, 1), (1, 3, 1)]), true⟩ = true := by decide +kernel
theorem ty198 : tyB Tryz.prog 198 ⟨2, 32, [ns, .i .i64 0], (.st [(0, 98, 1), (1, 3, 1)]), true⟩ = true := by decide +kernel
theorem ty199 : tyB Tryz.prog 199 ⟨1, 8, [nf], .fn, false⟩ = true := by decide +kernel
theorem ty200 : tyB Tryz.prog 200 ⟨1, 8, [nf], .fn, false⟩ = true := by decide +kernel
theorem ty201 : tyB Tryz.prog 201 ⟨1, 8, [nf], .fn, false⟩ = true := by decide +kernel
theorem ty202 : tyB Tryz.prog 202 ⟨1, 24, [ns], (.sl 98), false⟩ = true := by decide +kernel
theorem ty203 : tyB Tryz.prog 203 ⟨1, 8, [nf], .fn, false⟩ = true := by decide +kernel
theorem ty205 : tyB Tryz.prog 205 ⟨1, 8, [nf], .fn, false⟩ = true := by decide +kernel
theorem ty206 : tyB Tryz.prog 206 ⟨1, 8, [nf], .fn, false⟩ = true := by decide +kernel
theorem ty207 : tyB Tryz.prog 207 ⟨1, 24, [ns], (.sl 299), false⟩ = true := by decide +kernel
theorem ty208 : tyB Tryz.prog 208 ⟨4, 64, [.i .u64 0, .i .u64 0, ns, ns], (.st [(0, 22, 1), (1, 22, 1), (2, 74, 1), (3, 98, 1)]), true⟩ = true := by decide +kernel
theorem ty209 : tyB Tryz.prog 209 ⟨4, 64, [.i .u64 0, .i .u64 0, ns, ns], (.st [(0, 22, 1), (1, 22, 1), (2, 74, 1), (3, 98, 1)]), true⟩ = true := by decide +kernel
theorem ty210 : tyB Tryz.prog 210 ⟨15, 160, [.i .i64 0, .i .i64 0, .i .i64 0, .i .u64 0, .i .u64 0, .i .u64 0, .i .u64 0, .i .u64 0, .b false, .b false, ns, .i .u64 0, .i .u64 0, ns, ns], (.st [(0, 3, 1), (1, 3, 1), (2, 3, 1), (3, 22, 1), (4, 22, 1), (5, 22, 1), (6, 22, 1), (7, 22, 1), (8, 4, 1), (9, 4, 1), (10, 207, 1), (11, 209, 4)]), true⟩ = true := by decide +kernel
theorem ty211 : tyB Tryz.prog 211 ⟨15, 160, [.i .i64 0, .i .i64 0, .i .i64 0, .i .u64 0, .i .u64 0, .i .u64 0, .i .u64 0, .i .u64 0, .b false, .b false, ns, .i .u64 0, .i .u64 0, ns, ns], (.st [(0, 3, 1), (1, 3, 1), (2, 3, 1), (3, 22, 1), (4, 22, 1), (5, 22, 1), (6, 22, 1), (7, 22, 1), (8, 4, 1), (9, 4, 1), (10, 207, 1), (11, 209, 4)]), true⟩ = true := by decide +kernel
theorem ty213 : tyB Tryz.prog 213 ⟨1, 8, [nf], .fn, false⟩ = true := by decide +kernel
theorem ty214 : tyB Tryz.prog 214 ⟨1, 8, [nf], .fn, false⟩ = true := by decide +kernel
theorem ty215 : tyB Tryz.prog 215 ⟨17, 152, [.i .u64 0, .i .u64 0, .i .i64 0, .i .i64 0, .i .i64 0, .i .u64 0, .i .i64 0, .i .i64 0, .i .i64 0, .i .u64 0, .i .i64 0, .i .i64 0, .i .i64 0, .i .i64 0, ns, .i .u64 0, .i .i64 0], (.st [(0, 22, 1), (1, 22, 1), (2, 82, 1), (3, 87, 14)]), true⟩ = true := by decide +kernel
theorem ty216 : tyB Tryz.prog 216 ⟨17, 152, [.i .u64 0, .i .u64 0, .i .i64 0, .i .i64 0, .i .i64 0, .i .u64 0, .i .i64 0, .i .i64 0, .i .i64 0, .i .u64 0, .i .i64 0, .i .i64 0, .i .i64 0, .i .i64 0, ns, .i .u64 0, .i .i64 0], (.st [(0, 22, 1), (1, 22, 1), (2, 82, 1), (3, 87, 14)]), true⟩ = true := by decide +kernel
theorem ty218 : tyB Tryz.prog 218 ⟨1, 8, [nf], .fn, false⟩ = true := by decide +kernel
theorem ty219 : tyB Tryz.prog 219 ⟨1, 8, [nf], .fn, false⟩ = true := by decide +kernel
theorem ty220 : tyB Tryz.prog 220 ⟨1, 8, [nf], .fn, false⟩ = true := by decide +kernel
theorem ty222 : tyB Tryz.prog 222 ⟨1, 8, [nf], .fn, false⟩ = true := by decide +kernel
theorem ty223 : tyB Tryz.prog 223 ⟨1, 8, [nf], .fn, false⟩ = true := by decide +kernel
theorem ty224 : tyB Tryz.prog 224 ⟨1, 8, [np], .ptr, false⟩ = true := by decide +kernel
theorem ty226 : tyB Tryz.prog 226 ⟨1, 8, [nf], .fn, false⟩ = true := by decide +kernel
theorem ty227 : tyB Tryz.prog 227 ⟨4, 32, [.i .u64 0, .i .u64 0, .i .u64 0, .i .u64 0], (.st [(0, 22, 1), (1, 22, 1), (2, 22, 1), (3, 22, 1)]), true⟩ = true := by decide +kernel
theorem ty228 : tyB Tryz.prog 228 ⟨4, 32, [.i .u64 0, .i .u64 0, .i .u64 0, .i .u64 0], (.st [(0, 22, 1), (1, 22, 1), (2, 22, 1), (3, 22, 1)]), true⟩ = true := by decide +kernel
theorem ty229 : tyB Tryz.prog 229 ⟨1, 8, [nf], .fn, false⟩ = true := by decide +kernel
theorem ty231 : tyB Tryz.prog 231 ⟨1, 8, [nf], .fn, false⟩ = true := by decide +kernel
theorem ty232 : tyB Tryz.prog 232 ⟨1, 8, [np], .ptr, false⟩ = true := by decide +kernel
theorem ty233 : tyB Tryz.prog 233 ⟨1, 8, [nm], (.mp 22 84), false⟩ = true := by decide +kernel
theorem ty234 : tyB Tryz.prog 234 ⟨1, 8, [np], .ptr, false⟩ = true := by decide +kernel
theorem ty235 : tyB Tryz.prog 235 ⟨1, 8, [np], .ptr, false⟩ = true := by decide +kernel
theorem ty236 : tyB Tryz.prog 236 ⟨1, 8, [np], .ptr, false⟩ = true := by decide +kernel
theorem ty237 : tyB Tryz.prog 237 ⟨6, 48, [np, .i .u64 0, nm, np, np, np], (.st [(0, 232, 1), (1, 22, 1), (2, 233, 1), (3, 234, 1), (4, 235, 1), (5, 236, 1)]), true⟩ = true := by decide +kernel
theorem ty238 : tyB Tryz.prog 238 ⟨6, 48, [np, .i .u64 0, nm, np, np, np], (.st [(0, 232, 1), (1, 22, 1), (2, 233, 1), (3, 234, 1), (4, 235, 1), (5, 236, 1)]), true⟩ = true := by decide +kernel
theorem ty239 : tyB Tryz.prog 239 ⟨1, 8, [nf], .fn, false⟩ = true := by decide +kernel
theorem ty240 : tyB Tryz.prog 240 ⟨1, 8, [nf], .fn, false⟩ = true := by decide +kernel
theorem ty241 : tyB Tryz.prog 241 ⟨1, 8, [nf], .fn, false⟩ = true := by decide +kernel
theorem ty242 : tyB Tryz.prog 242 ⟨1, 8, [nf], .fn, false⟩ = true := by decide +kernel
theorem ty243 : tyB Tryz.prog 243 ⟨1, 8, [nf], .fn, false⟩ = true := by decide +kernel
theorem ty244 : tyB Tryz.prog 244 ⟨1, 8, [nf], .fn, false⟩ = true := by decide +kernel
theorem ty245 : tyB Tryz.prog 245 ⟨1, 8, [nf], .fn, false⟩ = true := by decide +kernel
theorem ty246 : tyB Tryz.prog 246 ⟨1, 8, [np], .ptr, false⟩ = true := by decide +kernel
theorem ty247 : tyB Tryz.prog 247 ⟨1, 8, [np], .ptr, false⟩ = true := by decide +kernel
theorem ty248 : tyB Tryz.prog 248 ⟨1, 8, [np], .ptr, false⟩ = true := by decide +kernel
theorem ty249 : tyB Tryz.prog 249 ⟨1, 8, [np], .ptr, false⟩ = true := by decide +kernel
theorem ty250 : tyB Tryz.prog 250 ⟨1, 24, [ns], (.sl 302), false⟩ = true := by decide +kernel
theorem ty251 : tyB Tryz.prog 251 ⟨20, 224, [np, .i .i64 0, ns, .i .i64 0, .i .i64 0, .i .i64 0, .i .i64 0, .i .i64 0, .i .i64 0, .i .i64 0, .i .u64 0, .i .u64 0, .b false, ns, .i .u64 0, np, np, np, ns, ns], (.st [(0, 246, 1), (1, 160, 4), (5, 3, 1), (6, 3, 1), (7, 3, 1), (8, 3, 1), (9, 3, 1), (10, 22, 1), (11, 22, 1), (12, 4, 1), (13, 74, 1), (14, 22, 1), (15, 247, 1), (16, 248, 1), (17, 249, 1), (18, 250, 1), (19, 122, 1)]), true⟩ = true := by decide +kernel
theorem ty252 : tyB Tryz.prog 252 ⟨20, 224, [np, .i .i64 0, ns, .i .i64 0, .i .i64 0, .i .i64 0, .i .i64 0, .i .i64 0, .i .i64 0, .i .i64 0, .i .u64 0, .i .u64 0, .b false, ns, .i .u64 0, np, np, np, ns, ns], (.st [(0, 246, 1), (1, 160, 4), (5, 3, 1), (6, 3, 1), (7, 3, 1), (8, 3, 1), (9, 3, 1), (10, 22, 1), (11, 22, 1), (12, 4, 1), (13, 74, 1), (14, 22, 1), (15, 247, 1), (16, 248, 1), (17, 249, 1), (18, 250, 1), (19, 122, 1)]), true⟩ = true := by decide +kernel
theorem ty253 : tyB Tryz.prog 253 ⟨1, 8, [nf], .fn, false⟩ = true := by decide +kernel
theorem ty254 : tyB Tryz.prog 254 ⟨1, 8, [nf], .fn, false⟩ = true := by decide +kernel
theorem ty255 : tyB Tryz.prog 255 ⟨1, 8, [nf], .fn, false⟩ = true := by decide +kernel
theorem ty256 : tyB Tryz.prog 256 ⟨0, 0, [], (.st []), true⟩ = true := by decide +kernel
theorem ty257 : tyB Tryz.prog 257 ⟨0, 0, [], (.st []), true⟩ = true := by decide +kernel
theorem ty258 : tyB Tryz.prog 258 ⟨0, 0, [], (.st []), true⟩ = true := by decide +kernel
theorem ty259 : tyB Tryz.prog 259 ⟨1, 8, [.i .u64 0], (.st [(0, 257, 0), (0, 258, 0), (0, 22, 1)]), false⟩ = true := by decide +kernel
theorem ty260 : tyB Tryz.prog 260 ⟨1, 8, [.i .u64 0], (.st [(0, 257, 0), (0, 258, 0), (0, 22, 1)]), false⟩ = true := by decide +kernel
theorem ty261 : tyB Tryz.prog 261 ⟨16, 128, [.i .u64 0, .i .u64 0, .i .u64 0, .i .u64 0, .i .u64 0, .i .u64 0, .i .u64 0, .i .u64 0, .i .u64 0, .i .u64 0, .i .u64 0, .i .u64 0, .i .u64 0, .i .u64 0, .i .u64 0, .i .u64 0], (.arr 16 260), true⟩ = true := by decide +kernel
theorem ty262 : tyB Tryz.prog 262 ⟨17, 136, [.i .u64 0, .i .u64 0, .i .u64 0, .i .u64 0, .i .u64 0, .i .u64 0, .i .u64 0, .i .u64 0, .i .u64 0, .i .u64 0, .i .u64 0, .i .u64 0, .i .u64 0, .i .u64 0, .i .u64 0, .i .u64 0, .i .i64 0], (.st [(0, 261, 16), (16, 3, 1)]), true⟩ = true := by decide +kernel
theorem ty263 : tyB Tryz.prog 263 ⟨17, 136, [.i .u64 0, .i .u64 0, .i .u64 0, .i .u64 0, .i .u64 0, .i .u64 0, .i .u64 0, .i .u64 0, .i .u64 0, .i .u64 0, .i .u64 0, .i .u64 0, .i .u64 0, .i .u64 0, .i .u64 0, .i .u64 0, .i .i64 0], (.st [(0, 261, 16), (16, 3, 1)]), true⟩ = true := by decide +kernel
theorem ty265 : tyB Tryz.prog 265 ⟨1, 8, [nf], .fn, false⟩ = true := by decide +kernel
theorem ty266 : tyB Tryz.prog 266 ⟨9, 152, [.b false, .i .u64 0, .i .u64 0, ns, ns, .i .u64 0, ns, ns, ns], (.st [(0, 4, 1), (1, 209, 4), (5, 22, 1), (6, 207, 1), (7, 250, 1), (8, 250, 1)]), true⟩ = true := by decide +kernel
theorem ty267 : tyB Tryz.prog 267 ⟨9, 152, [.b false, .i .u64 0, .i .u64 0, ns, ns, .i .u64 0, ns, ns, ns], (.st [(0, 4, 1), (1, 209, 4), (5, 22, 1), (6, 207, 1), (7, 250, 1), (8, 250, 1)]), true⟩ = true := by decide +kernel
theorem ty268 : tyB Tryz.prog 268 ⟨1, 8, [nf], .fn, false⟩ = true := by decide +kernel
theorem ty270 : tyB Tryz.prog 270 ⟨1, 8, [nf], .fn, false⟩ = true := by decide +kernel
theorem ty271 : tyB Tryz.prog 271 ⟨1, 8, [nf], .fn, false⟩ = true := by decide +kernel
theorem ty272 : tyB Tryz.prog 272 ⟨2, 16, [.i .u64 0, .i .u64 0], (.st [(0, 22, 1), (1, 22, 1)]), true⟩ = true := by decide +kernel
theorem ty273 : tyB Tryz.prog 273 ⟨2, 16, [.i .u64 0, .i .u64 0], (.st [(0, 22, 1), (1, 22, 1)]), true⟩ = true := by decide +kernel
theorem ty274 : tyB Tryz.prog 274 ⟨1, 8, [nf], .fn, false⟩ = true := by decide +kernel
theorem ty275 : tyB Tryz.prog 275 ⟨1, 8, [nf], .fn, false⟩ = true := by decide +kernel
theorem ty276 : tyB Tryz.prog 276 ⟨1, 8, [nf], .fn, false⟩ = true := by decide +kernel
end Go.Proofs.YtjdebeibhnjbgaaGreat
