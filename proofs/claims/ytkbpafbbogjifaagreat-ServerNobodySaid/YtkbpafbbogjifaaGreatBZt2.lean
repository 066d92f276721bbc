/- A runner's tables: types. -/
import Derived.Test.YtkbpafbbogjifaaGreatBZp0
namespace Go.Proofs.YtkbpafbbogjifaaGreat
open Go Go.Proofs.Rn
theorem ty140 : tyB Tryz.prog 140 ⟨0, 0, [], (.st []), true⟩ = true := by decide +kernel
theorem ty141 : tyB Tryz.prog 141 ⟨1, 8, [.i .u64 0], (.st [(0, 139, 0), (0, 140, 0), (0, 22, 1)]), false⟩ = true := by decide +kernel
theorem ty142 : tyB Tryz.prog 142 ⟨1, 8, [.i .u64 0], (.st [(0, 139, 0), (0, 140, 0), (0, 22, 1)]), false⟩ = true := by decide +kernel
theorem ty143 : tyB Tryz.prog 143 ⟨16, 128, [.i .u64 0, .i .u64 0, .i .u64 0, .i .u64 0, .i .u64 0, .i .u64 0, .i .u64 0, .i .u64 0, .i .u64 0, .i .u64 0, .i .u64 0, .i .u64 0, .i .u64 0, .i .u64 0, .i .u64 0, .i .u64 0], (.arr 16 142), true⟩ = true := by decide +kernel
theorem ty144 : tyB Tryz.prog 144 ⟨17, 136, [.i .u64 0, .i .u64 0, .i .u64 0, .i .u64 0, .i .u64 0, .i .u64 0, .i .u64 0, .i .u64 0, .i .u64 0, .i .u64 0, .i .u64 0, .i .u64 0, .i .u64 0, .i .u64 0, .i .u64 0, .i .u64 0, .i .i64 0], (.st [(0, 143, 16), (16, 3, 1)]), true⟩ = true := by decide +kernel
theorem ty145 : tyB Tryz.prog 145 ⟨17, 136, [.i .u64 0, .i .u64 0, .i .u64 0, .i .u64 0, .i .u64 0, .i .u64 0, .i .u64 0, .i .u64 0, .i .u64 0, .i .u64 0, .i .u64 0, .i .u64 0, .i .u64 0, .i .u64 0, .i .u64 0, .i .u64 0, .i .i64 0], (.st [(0, 143, 16), (16, 3, 1)]), true⟩ = true := by decide +kernel
theorem ty146 : tyB Tryz.prog 146 ⟨1, 8, [nf], .fn, false⟩ = true := by decide +kernel
theorem ty147 : tyB Tryz.prog 147 ⟨1, 8, [np], .ptr, false⟩ = true := by decide +kernel
theorem ty149 : tyB Tryz.prog 149 ⟨1, 8, [nf], .fn, false⟩ = true := by decide +kernel
theorem ty150 : tyB Tryz.prog 150 ⟨1, 8, [nf], .fn, false⟩ = true := by decide +kernel
theorem ty151 : tyB Tryz.prog 151 ⟨1, 8, [nf], .fn, false⟩ = true := by decide +kernel
theorem ty152 : tyB Tryz.prog 152 ⟨1, 8, [np], .ptr, false⟩ = true := by decide +kernel
theorem ty153 : tyB Tryz.prog 153 ⟨1, 8, [np], .ptr, false⟩ = true := by decide +kernel
theorem ty154 : tyB Tryz.prog 154 ⟨1, 8, [np], .ptr, false⟩ = true := by decide +kernel
theorem ty155 : tyB Tryz.prog 155 ⟨20, 224, [np, .i .i64 0, ns, .i .i64 0, .i .i64 0, .i .i64 0, .i .i64 0, .i .i64 0, .i .i64 0, .i .i64 0, .i .u64 0, .i .u64 0, .b false, ns, .i .u64 0, np, np, np, ns, ns], (.st [(0, 147, 1), (1, 43, 4), (5, 3, 1), (6, 3, 1), (7, 3, 1), (8, 3, 1), (9, 3, 1), (10, 22, 1), (11, 22, 1), (12, 4, 1), (13, 24, 1), (14, 22, 1), (15, 152, 1), (16, 153, 1), (17, 154, 1), (18, 95, 1), (19, 48, 1)]), true⟩ = true := by decide +kernel
theorem ty156 : tyB Tryz.prog 156 ⟨20, 224, [np, .i .i64 0, ns, .i .i64 0, .i .i64 0, .i .i64 0, .i .i64 0, .i .i64 0, .i .i64 0, .i .i64 0, .i .u64 0, .i .u64 0, .b false, ns, .i .u64 0, np, np, np, ns, ns], (.st [(0, 147, 1), (1, 43, 4), (5, 3, 1), (6, 3, 1), (7, 3, 1), (8, 3, 1), (9, 3, 1), (10, 22, 1), (11, 22, 1), (12, 4, 1), (13, 24, 1), (14, 22, 1), (15, 152, 1), (16, 153, 1), (17, 154, 1), (18, 95, 1), (19, 48, 1)]), true⟩ = true := by decide +kernel
theorem ty158 : tyB Tryz.prog 158 ⟨1, 8, [nf], .fn, false⟩ = true := by decide +kernel
theorem ty159 : tyB Tryz.prog 159 ⟨1, 8, [np], .ptr, false⟩ = true := by decide +kernel
theorem ty160 : tyB Tryz.prog 160 ⟨1, 8, [nf], .fn, false⟩ = true := by decide +kernel
theorem ty161 : tyB Tryz.prog 161 ⟨1, 8, [nm], (.mp 22 81), false⟩ = true := by decide +kernel
theorem ty162 : tyB Tryz.prog 162 ⟨1, 8, [np], .ptr, false⟩ = true := by decide +kernel
theorem ty163 : tyB Tryz.prog 163 ⟨1, 8, [nf], .fn, false⟩ = true := by decide +kernel
theorem ty164 : tyB Tryz.prog 164 ⟨1, 8, [np], .ptr, false⟩ = true := by decide +kernel
theorem ty165 : tyB Tryz.prog 165 ⟨1, 8, [nf], .fn, false⟩ = true := by decide +kernel
theorem ty166 : tyB Tryz.prog 166 ⟨1, 8, [np], .ptr, false⟩ = true := by decide +kernel
theorem ty167 : tyB Tryz.prog 167 ⟨1, 8, [nf], .fn, false⟩ = true := by decide +kernel
theorem ty168 : tyB Tryz.prog 168 ⟨6, 48, [np, .i .u64 0, nm, np, np, np], (.st [(0, 159, 1), (1, 22, 1), (2, 161, 1), (3, 162, 1), (4, 164, 1), (5, 166, 1)]), true⟩ = true := by decide +kernel
theorem ty169 : tyB Tryz.prog 169 ⟨6, 48, [np, .i .u64 0, nm, np, np, np], (.st [(0, 159, 1), (1, 22, 1), (2, 161, 1), (3, 162, 1), (4, 164, 1), (5, 166, 1)]), true⟩ = true := by decide +kernel
theorem ty170 : tyB Tryz.prog 170 ⟨1, 8, [nf], .fn, false⟩ = true := by decide +kernel
theorem ty171 : tyB Tryz.prog 171 ⟨1, 8, [nf], .fn, false⟩ = true := by decide +kernel
theorem ty173 : tyB Tryz.prog 173 ⟨1, 8, [nf], .fn, false⟩ = true := by decide +kernel
theorem ty174 : tyB Tryz.prog 174 ⟨1, 8, [np], .ptr, false⟩ = true := by decide +kernel
theorem ty175 : tyB Tryz.prog 175 ⟨1, 8, [nf], .fn, false⟩ = true := by decide +kernel
theorem ty176 : tyB Tryz.prog 176 ⟨1, 8, [nf], .fn, false⟩ = true := by decide +kernel
theorem ty177 : tyB Tryz.prog 177 ⟨1, 24, [ns], (.sl 81), false⟩ = true := by decide +kernel
theorem ty178 : tyB Tryz.prog 178 ⟨1, 24, [ns], (.sl 302), false⟩ = true := by decide +kernel
theorem ty179 : tyB Tryz.prog 179 ⟨3, 40, [.i .i64 0, .i .u64 0, ns], (.st [(0, 2, 1), (1, 22, 1), (2, 178, 1)]), true⟩ = true := by decide +kernel
theorem ty180 : tyB Tryz.prog 180 ⟨3, 40, [.i .i64 0, .i .u64 0, ns], (.st [(0, 2, 1), (1, 22, 1), (2, 178, 1)]), true⟩ = true := by decide +kernel
theorem ty181 : tyB Tryz.prog 181 ⟨2, 32, [.i .u64 0, ns], (.st [(0, 22, 1), (1, 51, 1)]), true⟩ = true := by decide +kernel
theorem ty182 : tyB Tryz.prog 182 ⟨2, 32, [.i .u64 0, ns], (.st [(0, 22, 1), (1, 51, 1)]), true⟩ = true := by decide +kernel
theorem ty183 : tyB Tryz.prog 183 ⟨9, 120, [.i .u64 0, np, ns, .i .i64 0, .i .u64 0, ns, .i .u64 0, ns, np], (.st [(0, 22, 1), (1, 159, 1), (2, 177, 1), (3, 180, 3), (6, 182, 2), (8, 166, 1)]), true⟩ = true := by decide +kernel
theorem ty184 : tyB Tryz.prog 184 ⟨9, 120, [.i .u64 0, np, ns, .i .i64 0, .i .u64 0, ns, .i .u64 0, ns, np], (.st [(0, 22, 1), (1, 159, 1), (2, 177, 1), (3, 180, 3), (6, 182, 2), (8, 166, 1)]), true⟩ = true := by decide +kernel
theorem ty186 : tyB Tryz.prog 186 ⟨1, 8, [nf], .fn, false⟩ = true := by decide +kernel
theorem ty188 : tyB Tryz.prog 188 ⟨1, 8, [nf], .fn, false⟩ = true := by decide +kernel
theorem ty190 : tyB Tryz.prog 190 ⟨1, 8, [nf], .fn, false⟩ = true := by decide +kernel
theorem ty192 : tyB Tryz.prog 192 ⟨1, 8, [nf], .fn, false⟩ = true := by decide +kernel
theorem ty194 : tyB Tryz.prog 194 ⟨1, 8, [nf], .fn, false⟩ = true := by decide +kernel
theorem ty195 : tyB Tryz.prog 195 ⟨1, 8, [nf], .fn, false⟩ = true := by decide +kernel
theorem ty196 : tyB Tryz.prog 196 ⟨1, 8, [nf], .fn, false⟩ = true := by decide +kernel
theorem ty198 : tyB Tryz.prog 198 ⟨1, 8, [nf], .fn, false⟩ = true := by decide +kernel
theorem ty199 : tyB Tryz.prog 199 ⟨1, 8, [nf], .fn, false⟩ = true := by decide +kernel
theorem ty200 : tyB Tryz.prog 200 ⟨1, 8, [nf], .fn, false⟩ = true := by decide +kernel
theorem ty201 : tyB Tryz.prog 201 ⟨3, 24, [.i .u64 0, .i .u64 0, .i .u64 0], (.st [(0, 22, 1), (1, 22, 1), (2, 22, 1)]), true⟩ = true := by decide +kernel
theorem ty202 : tyB Tryz.prog 202 ⟨3, 24, [.i .u64 0, .i .u64 0, .i .u64 0], (.st [(0, 22, 1), (1, 22, 1), (2, 22, 1)]), true⟩ = true := by decide +kernel
theorem ty203 : tyB Tryz.prog 203 ⟨1, 8, [nf], .fn, false⟩ = true := by decide +kernel
theorem ty204 : tyB Tryz.prog 204 ⟨1, 8, [nf], .fn, false⟩ = true := by decide +kernel
theorem ty205 : tyB Tryz.prog 205 ⟨1, 8, [nf], .fn, false⟩ = true := by decide +kernel
theorem ty206 : tyB Tryz.prog 206 ⟨1, 8, [nf], .fn, false⟩ = true := by decide +kernel
theorem ty207 : tyB Tryz.prog 207 ⟨1, 8, [nf], .fn, false⟩ = true := by decide +kernel
theorem ty208 : tyB Tryz.prog 208 ⟨1, 8, [nf], .fn, false⟩ = true := by decide +kernel
theorem ty209 : tyB Tryz.prog 209 ⟨9, 72, [.i .u64 0, .i .u64 0, .i .i64 0, .i .i64 0, .i .i64 0, .i .i64 0, .i .i64 0, .i .i64 0, .i .i64 0], (.st [(0, 22, 1), (1, 22, 1), (2, 3, 1), (3, 3, 1), (4, 3, 1), (5, 3, 1), (6, 3, 1), (7, 2, 1), (8, 2, 1)]), true⟩ = true := by decide +kernel
theorem ty210 : tyB Tryz.prog 210 ⟨9, 72, [.i .u64 0, .i .u64 0, .i .i64 0, .i .i64 0, .i .i64 0, .i .i64 0, .i .i64 0, .i .i64 0, .i .i64 0], (.st [(0, 22, 1), (1, 22, 1), (2, 3, 1), (3, 3, 1), (4, 3, 1), (5, 3, 1), (6, 3, 1), (7, 2, 1), (8, 2, 1)]), true⟩ = true := by decide +kernel
theorem ty211 : tyB Tryz.prog 211 ⟨1, 8, [nf], .fn, false⟩ = true := by decide +kernel
theorem ty212 : tyB Tryz.prog 212 ⟨1, 8, [nf], .fn, false⟩ = true := by decide +kernel
theorem ty213 : tyB Tryz.prog 213 ⟨1, 8, [nf], .fn, false⟩ = true := by decide +kernel
theorem ty214 : tyB Tryz.prog 214 ⟨1, 8, [nf], .fn, false⟩ = true := by decide +kernel
theorem ty215 : tyB Tryz.prog 215 ⟨1, 8, [nf], .fn, false⟩ = true := by decide +kernel
theorem ty216 : tyB Tryz.prog 216 ⟨1, 8, [nf], .fn, false⟩ = true := by decide +kernel
theorem ty217 : tyB Tryz.prog 217 ⟨4, 32, [.i .u64 0, .i .u64 0, .i .u64 0, .b false], (.st [(0, 22, 1), (1, 22, 1), (2, 22, 1), (3, 4, 1)]), true⟩ = true := by decide +kernel
theorem ty218 : tyB Tryz.prog 218 ⟨4, 32, [.i .u64 0, .i .u64 0, .i .u64 0, .b false], (.st [(0, 22, 1), (1, 22, 1), (2, 22, 1), (3, 4, 1)]), true⟩ = true := by decide +kernel
theorem ty220 : tyB Tryz.prog 220 ⟨1, 8, [nf], .fn, false⟩ = true := by decide +kernel
theorem ty221 : tyB Tryz.prog 221 ⟨1, 8, [nf], .fn, false⟩ = true := by decide +kernel
theorem ty222 : tyB Tryz.prog 222 ⟨1, 8, [nf], .fn, false⟩ = true := by decide +kernel
theorem ty223 : tyB Tryz.prog 223 ⟨1, 8, [nf], .fn, false⟩ = true := by decide +kernel
theorem ty224 : tyB Tryz.prog 224 ⟨1, 8, [nf], .fn, false⟩ = true := by decide +kernel
theorem ty225 : tyB Tryz.prog 225 ⟨3, 24, [.i .u64 0, .i .u64 0, .i .u64 0], (.arr 3 22), true⟩ = true := by decide +kernel
theorem ty226 : tyB Tryz.prog 226 ⟨5, 5, [.b false, .b false, .b false, .b false, .b false], (.st [(0, 4, 1), (1, 4, 1), (2, 4, 1), (3, 4, 1), (4, 4, 1)]), true⟩ = true := by decide +kernel
theorem ty227 : tyB Tryz.prog 227 ⟨5, 5, [.b false, .b false, .b false, .b false, .b false], (.st [(0, 4, 1), (1, 4, 1), (2, 4, 1), (3, 4, 1), (4, 4, 1)]), true⟩ = true := by decide +kernel
theorem ty229 : tyB Tryz.prog 229 ⟨1, 8, [nf], .fn, false⟩ = true := by decide +kernel
theorem ty231 : tyB Tryz.prog 231 ⟨1, 8, [nf], .fn, false⟩ = true := by decide +kernel
theorem ty233 : tyB Tryz.prog 233 ⟨1, 8, [nf], .fn, false⟩ = true := by decide +kernel
theorem ty234 : tyB Tryz.prog 234 ⟨1, 8, [nf], .fn, false⟩ = true := by decide +kernel
theorem ty235 : tyB Tryz.prog 235 ⟨1, 24, [ns], (.st [(0, 25, 1)]), true⟩ = true := by decide +kernel
theorem ty236 : tyB Tryz.prog 236 ⟨1, 24, [ns], (.st [(0, 25, 1)]), true⟩ = true := by decide +kernel
theorem ty237 : tyB Tryz.prog 237 ⟨1, 8, [nf], .fn, false⟩ = true := by decide +kernel
theorem ty238 : tyB Tryz.prog 238 ⟨1, 8, [nf], .fn, false⟩ = true := by decide +kernel
theorem ty239 : tyB Tryz.prog 239 ⟨1, 8, [np], .ptr, false⟩ = true := by decide +kernel
theorem ty240 : tyB Tryz.prog 240 ⟨1, 8, [nf], .fn, false⟩ = true := by decide +kernel
theorem ty241 : tyB Tryz.prog 241 ⟨1, 8, [nf], .fn, false⟩ = true := by decide +kernel
theorem ty242 : tyB Tryz.prog 242 ⟨1, 8, [nf], .fn, false⟩ = true := by decide +kernel
theorem ty243 : tyB Tryz.prog 243 ⟨1, 8, [nf], .fn, false⟩ = true := by decide +kernel
theorem ty244 : tyB Tryz.prog 244 ⟨1, 8, [nf], .fn, false⟩ = true := by decide +kernel
theorem ty245 : tyB Tryz.prog 245 ⟨1, 8, [nf], .fn, false⟩ = true := by decide +kernel
theorem ty247 : tyB Tryz.prog 247 ⟨1, 8, [nf], .fn, false⟩ = true := by decide +kernel
theorem ty248 : tyB Tryz.prog 248 ⟨1, 8, [nf], .fn, false⟩ = true := by decide +kernel
theorem ty249 : tyB Tryz.prog 249 ⟨1, 8, [np], .ptr, false⟩ = true := by decide +kernel
theorem ty250 : tyB Tryz.prog 250 ⟨1, 8, [np], .ptr, false⟩ = true := by decide +kernel
theorem ty251 : tyB Tryz.prog 251 ⟨1, 8, [np], .ptr, false⟩ = true := by decide +kernel
theorem ty252 : tyB Tryz.prog 252 ⟨3, 24, [np, np, np], (.st [(0, 249, 1), (1, 250, 1), (2, 251, 1)]), true⟩ = true := by decide +kernel
theorem ty253 : tyB Tryz.prog 253 ⟨3, 24, [np, np, np], (.st [(0, 249, 1), (1, 250, 1), (2, 251, 1)]), true⟩ = true := by decide +kernel
theorem ty254 : tyB Tryz.prog 254 ⟨4, 32, [np, np, np, .b false], (.st [(0, 253, 3), (3, 4, 1)]), true⟩ = true := by decide +kernel
theorem ty255 : tyB Tryz.prog 255 ⟨4, 32, [np, np, np, .b false], (.st [(0, 253, 3), (3, 4, 1)]), true⟩ = true := by decide +kernel
theorem ty257 : tyB Tryz.prog 257 ⟨1, 8, [nf], .fn, false⟩ = true := by decide +kernel
theorem ty259 : tyB Tryz.prog 259 ⟨1, 8, [nf], .fn, false⟩ = true := by decide +kernel
theorem ty261 : tyB Tryz.prog 261 ⟨1, 8, [nf], .fn, false⟩ = true := by decide +kernel
theorem ty263 : tyB Tryz.prog 263 ⟨1, 8, [nf], .fn, false⟩ = true := by decide +kernel
theorem ty264 : tyB Tryz.prog 264 ⟨1, 8, [nf], .fn, false⟩ = true := by decide +kernel
theorem ty266 : tyB Tryz.prog 266 ⟨1, 8, [nf], .fn, false⟩ = true := by decide +kernel
theorem ty267 : tyB Tryz.prog 267 ⟨2, 16, [.i .u64 0, .i .i64 0], (.st [(0, 22, 1), (1, 3, 1)]), true⟩ = true := by decide +kernel
theorem ty268 : tyB Tryz.prog 268 ⟨2, 16, [.i .u64 0, .i .i64 0], (.st [(0, 22, 1), (1, 3, 1)]), true⟩ = true := by decide +kernel
theorem ty269 : tyB Tryz.prog 269 ⟨1, 8, [nf], .fn, false⟩ = true := by decide +kernel
theorem ty270 : tyB Tryz.prog 270 ⟨1, 8, [nf], .fn, false⟩ = true := by decide +kernel
theorem ty272 : tyB Tryz.prog 272 ⟨1, 8, [nf], .fn, false⟩ = true := by decide +kernel
theorem ty273 : tyB Tryz.prog 273 ⟨1, 8, [nm], (.mp 3 355), false⟩ = true := by decide +kernel
theorem ty274 : tyB Tryz.prog 274 ⟨1, 8, [nm], (.mp 3 120), false⟩ = true := by decide +kernel
theorem ty275 : tyB Tryz.prog 275 ⟨2, 16, [nm, nm], (.st [(0, 273, 1), (1, 274, 1)]), true⟩ = true := by decide +kernel
theorem ty276 : tyB Tryz.prog 276 ⟨2, 16, [nm, nm], (.st [(0, 273, 1), (1, 274, 1)]), true⟩ = true := by decide +kernel
theorem ty277 : tyB Tryz.prog 277 ⟨1, 8, [np], .ptr, false⟩ = true := by decide +kernel
theorem ty278 : tyB Tryz.prog 278 ⟨1, 8, [nf], .fn, false⟩ = true := by decide +kernel
theorem ty279 : tyB Tryz.prog 279 ⟨2, 16, [np, .i .u64 0], (.st [(0, 277, 1), (1, 22, 1)]), true⟩ = true := by decide +kernel
theorem ty280 : tyB Tryz.prog 280 ⟨2, 16, [np, .i .u64 0], (.st [(0, 277, 1), (1, 22, 1)]), true⟩ = true := by decide +kernel
theorem ty281 : tyB Tryz.prog 281 ⟨3, 40, [.b false, .i .u64 0, ns], (.st [(0, 4, 1), (1, 22, 1), (2, 51, 1)]), true⟩ = true := by decide +kernel
theorem ty282 : tyB Tryz.prog 282 ⟨3, 40, [.b false, .i .u64 0, ns], (.st [(0, 4, 1), (1, 22, 1), (2, 51, 1)]), true⟩ = true := by decide +kernel
theorem ty283 : tyB Tryz.prog 283 ⟨1, 8, [nm], (.mp 22 361), false⟩ = true := by decide +kernel
theorem ty284 : tyB Tryz.prog 284 ⟨1, 8, [nm], (.st [(0, 283, 1)]), true⟩ = true := by decide +kernel
theorem ty285 : tyB Tryz.prog 285 ⟨1, 8, [nm], (.st [(0, 283, 1)]), true⟩ = true := by decide +kernel
theorem ty286 : tyB Tryz.prog 286 ⟨1, 8, [nf], .fn, false⟩ = true := by decide +kernel
theorem ty287 : tyB Tryz.prog 287 ⟨4, 48, [.b false, .i .u64 0, .i .u64 0, ns], (.st [(0, 4, 1), (1, 22, 1), (2, 22, 1), (3, 95, 1)]), true⟩ = true := by decide +kernel
theorem ty288 : tyB Tryz.prog 288 ⟨4, 48, [.b false, .i .u64 0, .i .u64 0, ns], (.st [(0, 4, 1), (1, 22, 1), (2, 22, 1), (3, 95, 1)]), true⟩ = true := by decide +kernel
theorem ty289 : tyB Tryz.prog 289 ⟨1, 8, [nf], .fn, false⟩ = true := by decide +kernel
end Go.Proofs.YtkbpafbbogjifaaGreat
