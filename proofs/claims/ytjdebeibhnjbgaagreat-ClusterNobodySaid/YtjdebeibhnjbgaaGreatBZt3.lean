/- A runner's tables: types. -/
import Derived.Test.YtjdebeibhnjbgaaGreatBZp0
namespace Go.Proofs.YtjdebeibhnjbgaaGreat
open Go Go.Proofs.Rn
theorem ty277 : tyB Tryz.prog 277 ⟨1, 8, [nf], .fn, false⟩ = true := by decide +kernel
theorem ty279 : tyB Tryz.prog 279 ⟨1, 8, [nf], .fn, false⟩ = true := by decide +kernel
theorem ty280 : tyB Tryz.prog 280 ⟨1, 8, [nf], .fn, false⟩ = true := by decide +kernel
theorem ty281 : tyB Tryz.prog 281 ⟨2, 32, [.i .u64 0, ns], (.st [(0, 22, 1), (1, 98, 1)]), true⟩ = true := by decide +kernel
theorem ty282 : tyB Tryz.prog 282 ⟨2, 32, [.i .u64 0, ns], (.st [(0, 22, 1), (1, 98, 1)]), true⟩ = true := by decide +kernel
theorem ty283 : tyB Tryz.prog 283 ⟨1, 8, [nf], .fn, false⟩ = true := by decide +kernel
theorem ty284 : tyB Tryz.prog 284 ⟨1, 8, [nf], .fn, false⟩ = true := by decide +kernel
theorem ty285 : tyB Tryz.prog 285 ⟨4, 32, [.i .u64 0, .i .u64 0, .i .u64 0, .b false], (.st [(0, 22, 1), (1, 22, 1), (2, 22, 1), (3, 4, 1)]), true⟩ = true := by decide +kernel
theorem ty286 : tyB Tryz.prog 286 ⟨4, 32, [.i .u64 0, .i .u64 0, .i .u64 0, .b false], (.st [(0, 22, 1), (1, 22, 1), (2, 22, 1), (3, 4, 1)]), true⟩ = true := by decide +kernel
theorem ty288 : tyB Tryz.prog 288 ⟨1, 8, [nf], .fn, false⟩ = true := by decide +kernel
theorem ty289 : tyB Tryz.prog 289 ⟨1, 8, [nf], .fn, false⟩ = true := by decide +kernel
theorem ty290 : tyB Tryz.prog 290 ⟨1, 8, [nf], .fn, false⟩ = true := by decide +kernel
theorem ty291 : tyB Tryz.prog 291 ⟨1, 8, [nf], .fn, false⟩ = true := by decide +kernel
theorem ty292 : tyB Tryz.prog 292 ⟨1, 8, [nf], .fn, false⟩ = true := by decide +kernel
theorem ty293 : tyB Tryz.prog 293 ⟨1, 8, [nf], .fn, false⟩ = true := by decide +kernel
theorem ty294 : tyB Tryz.prog 294 ⟨1, 8, [nf], .fn, false⟩ = true := by decide +kernel
theorem ty296 : tyB Tryz.prog 296 ⟨1, 8, [nf], .fn, false⟩ = true := by decide +kernel
theorem ty297 : tyB Tryz.prog 297 ⟨1, 8, [nf], .fn, false⟩ = true := by decide +kernel
theorem ty298 : tyB Tryz.prog 298 ⟨3, 40, [.i .u64 0, .i .i64 0, ns], (.st [(0, 22, 1), (1, 3, 1), (2, 98, 1)]), true⟩ = true := by decide +kernel
theorem ty299 : tyB Tryz.prog 299 ⟨3, 40, [.i .u64 0, .i .i64 0, ns], (.st [(0, 22, 1), (1, 3, 1), (2, 98, 1)]), true⟩ = true := by decide +kernel
theorem ty300 : tyB Tryz.prog 300 ⟨1, 8, [nf], .fn, false⟩ = true := by decide +kernel
theorem ty301 : tyB Tryz.prog 301 ⟨3, 24, [.i .u64 0, .i .u64 0, .i .u64 0], (.st [(0, 22, 1), (1, 22, 1), (2, 22, 1)]), true⟩ = true := by decide +kernel
theorem ty302 : tyB Tryz.prog 302 ⟨3, 24, [.i .u64 0, .i .u64 0, .i .u64 0], (.st [(0, 22, 1), (1, 22, 1), (2, 22, 1)]), true⟩ = true := by decide +kernel
theorem ty303 : tyB Tryz.prog 303 ⟨1, 8, [nf], .fn, false⟩ = true := by decide +kernel
theorem ty304 : tyB Tryz.prog 304 ⟨1, 8, [nf], .fn, false⟩ = true := by decide +kernel
theorem ty306 : tyB Tryz.prog 306 ⟨1, 8, [nf], .fn, false⟩ = true := by decide +kernel
theorem ty307 : tyB Tryz.prog 307 ⟨1, 8, [nf], .fn, false⟩ = true := by decide +kernel
theorem ty308 : tyB Tryz.prog 308 ⟨1, 8, [nf], .fn, false⟩ = true := by decide +kernel
theorem ty309 : tyB Tryz.prog 309 ⟨1, 8, [nf], .fn, false⟩ = true := by decide +kernel
theorem ty310 : tyB Tryz.prog 310 ⟨1, 8, [nf], .fn, false⟩ = true := by decide +kernel
theorem ty311 : tyB Tryz.prog 311 ⟨1, 8, [nf], .fn, false⟩ = true := by decide +kernel
theorem ty312 : tyB Tryz.prog 312 ⟨1, 8, [nf], .fn, false⟩ = true := by decide +kernel
theorem ty313 : tyB Tryz.prog 313 ⟨1, 8, [nf], .fn, false⟩ = true := by decide +kernel
theorem ty314 : tyB Tryz.prog 314 ⟨1, 8, [np], .ptr, false⟩ = true := by decide +kernel
theorem ty315 : tyB Tryz.prog 315 ⟨1, 8, [nf], .fn, false⟩ = true := by decide +kernel
theorem ty316 : tyB Tryz.prog 316 ⟨1, 8, [nf], .fn, false⟩ = true := by decide +kernel
theorem ty317 : tyB Tryz.prog 317 ⟨1, 8, [np], .ptr, false⟩ = true := by decide +kernel
theorem ty318 : tyB Tryz.prog 318 ⟨1, 8, [nf], .fn, false⟩ = true := by decide +kernel
theorem ty319 : tyB Tryz.prog 319 ⟨1, 8, [nf], .fn, false⟩ = true := by decide +kernel
theorem ty320 : tyB Tryz.prog 320 ⟨1, 8, [nf], .fn, false⟩ = true := by decide +kernel
theorem ty321 : tyB Tryz.prog 321 ⟨1, 8, [np], .ptr, false⟩ = true := by decide +kernel
theorem ty322 : tyB Tryz.prog 322 ⟨1, 8, [nf], .fn, false⟩ = true := by decide +kernel
theorem ty323 : tyB Tryz.prog 323 ⟨3, 24, [.i .u64 0, .i .u64 0, .i .u64 0], (.arr 3 22), true⟩ = true := by decide +kernel
theorem ty324 : tyB Tryz.prog 324 ⟨5, 5, [.b false, .b false, .b false, .b false, .b false], (.st [(0, 4, 1), (1, 4, 1), (2, 4, 1), (3, 4, 1), (4, 4, 1)]), true⟩ = true := by decide +kernel
theorem ty325 : tyB Tryz.prog 325 ⟨5, 5, [.b false, .b false, .b false, .b false, .b false], (.st [(0, 4, 1), (1, 4, 1), (2, 4, 1), (3, 4, 1), (4, 4, 1)]), true⟩ = true := by decide +kernel
theorem ty327 : tyB Tryz.prog 327 ⟨1, 8, [nf], .fn, false⟩ = true := by decide +kernel
theorem ty329 : tyB Tryz.prog 329 ⟨1, 8, [nf], .fn, false⟩ = true := by decide +kernel
theorem ty331 : tyB Tryz.prog 331 ⟨1, 8, [nf], .fn, false⟩ = true := by decide +kernel
theorem ty332 : tyB Tryz.prog 332 ⟨1, 24, [ns], (.st [(0, 98, 1)]), true⟩ = true := by decide +kernel
theorem ty333 : tyB Tryz.prog 333 ⟨1, 24, [ns], (.st [(0, 98, 1)]), true⟩ = true := by decide +kernel
theorem ty334 : tyB Tryz.prog 334 ⟨1, 8, [nf], .fn, false⟩ = true := by decide +kernel
theorem ty335 : tyB Tryz.prog 335 ⟨1, 8, [nf], .fn, false⟩ = true := by decide +kernel
theorem ty336 : tyB Tryz.prog 336 ⟨1, 8, [np], .ptr, false⟩ = true := by decide +kernel
theorem ty337 : tyB Tryz.prog 337 ⟨1, 8, [nf], .fn, false⟩ = true := by decide +kernel
theorem ty338 : tyB Tryz.prog 338 ⟨1, 8, [nf], .fn, false⟩ = true := by decide +kernel
theorem ty339 : tyB Tryz.prog 339 ⟨1, 8, [nf], .fn, false⟩ = true := by decide +kernel
theorem ty340 : tyB Tryz.prog 340 ⟨1, 8, [nm], (.mp 3 347), false⟩ = true := by decide +kernel
theorem ty341 : tyB Tryz.prog 341 ⟨1, 8, [nm], (.mp 3 28), false⟩ = true := by decide +kernel
theorem ty342 : tyB Tryz.prog 342 ⟨2, 16, [nm, nm], (.st [(0, 340, 1), (1, 341, 1)]), true⟩ = true := by decide +kernel
theorem ty343 : tyB Tryz.prog 343 ⟨2, 16, [nm, nm], (.st [(0, 340, 1), (1, 341, 1)]), true⟩ = true := by decide +kernel
theorem ty344 : tyB Tryz.prog 344 ⟨1, 8, [nf], .fn, false⟩ = true := by decide +kernel
theorem ty345 : tyB Tryz.prog 345 ⟨1, 8, [np], .ptr, false⟩ = true := by decide +kernel
theorem ty346 : tyB Tryz.prog 346 ⟨4, 64, [.i .i64 0, ns, ns, np], (.st [(0, 25, 3), (3, 345, 1)]), true⟩ = true := by decide +kernel
theorem ty347 : tyB Tryz.prog 347 ⟨4, 64, [.i .i64 0, ns, ns, np], (.st [(0, 25, 3), (3, 345, 1)]), true⟩ = true := by decide +kernel
theorem ty348 : tyB Tryz.prog 348 ⟨1, 8, [nf], .fn, false⟩ = true := by decide +kernel
theorem ty349 : tyB Tryz.prog 349 ⟨1, 8, [np], .ptr, false⟩ = true := by decide +kernel
theorem ty350 : tyB Tryz.prog 350 ⟨2, 16, [np, .i .u64 0], (.st [(0, 349, 1), (1, 22, 1)]), true⟩ = true := by decide +kernel
theorem ty351 : tyB Tryz.prog 351 ⟨2, 16, [np, .i .u64 0], (.st [(0, 349, 1), (1, 22, 1)]), true⟩ = true := by decide +kernel
theorem ty353 : tyB Tryz.prog 353 ⟨1, 8, [nf], .fn, false⟩ = true := by decide +kernel
theorem ty354 : tyB Tryz.prog 354 ⟨1, 24, [ns], (.sl 450), false⟩ = true := by decide +kernel
theorem ty355 : tyB Tryz.prog 355 ⟨3, 40, [.i .i64 0, .i .u64 0, ns], (.st [(0, 2, 1), (1, 22, 1), (2, 354, 1)]), true⟩ = true := by decide +kernel
theorem ty356 : tyB Tryz.prog 356 ⟨3, 40, [.i .i64 0, .i .u64 0, ns], (.st [(0, 2, 1), (1, 22, 1), (2, 354, 1)]), true⟩ = true := by decide +kernel
theorem ty357 : tyB Tryz.prog 357 ⟨1, 8, [nf], .fn, false⟩ = true := by decide +kernel
theorem ty358 : tyB Tryz.prog 358 ⟨3, 40, [.b false, .i .u64 0, ns], (.st [(0, 4, 1), (1, 22, 1), (2, 124, 1)]), true⟩ = true := by decide +kernel
theorem ty359 : tyB Tryz.prog 359 ⟨3, 40, [.b false, .i .u64 0, ns], (.st [(0, 4, 1), (1, 22, 1), (2, 124, 1)]), true⟩ = true := by decide +kernel
theorem ty360 : tyB Tryz.prog 360 ⟨1, 8, [nf], .fn, false⟩ = true := by decide +kernel
theorem ty361 : tyB Tryz.prog 361 ⟨1, 8, [nm], (.mp 22 365), false⟩ = true := by decide +kernel
theorem ty362 : tyB Tryz.prog 362 ⟨1, 8, [nm], (.st [(0, 361, 1)]), true⟩ = true := by decide +kernel
theorem ty363 : tyB Tryz.prog 363 ⟨1, 8, [nm], (.st [(0, 361, 1)]), true⟩ = true := by decide +kernel
theorem ty364 : tyB Tryz.prog 364 ⟨15, 136, [.i .u64 0, .i .i64 0, .i .i64 0, .i .u64 0, .i .i64 0, .i .i64 0, .i .i64 0, .i .u64 0, .i .i64 0, .i .i64 0, .i .i64 0, .i .i64 0, ns, .i .u64 0, .i .i64 0], (.st [(0, 22, 1), (1, 87, 14)]), true⟩ = true := by decide +kernel
theorem ty365 : tyB Tryz.prog 365 ⟨15, 136, [.i .u64 0, .i .i64 0, .i .i64 0, .i .u64 0, .i .i64 0, .i .i64 0, .i .i64 0, .i .u64 0, .i .i64 0, .i .i64 0, .i .i64 0, .i .i64 0, ns, .i .u64 0, .i .i64 0], (.st [(0, 22, 1), (1, 87, 14)]), true⟩ = true := by decide +kernel
theorem ty366 : tyB Tryz.prog 366 ⟨1, 8, [nf], .fn, false⟩ = true := by decide +kernel
theorem ty367 : tyB Tryz.prog 367 ⟨2, 16, [.i .u64 0, .i .i64 0], (.st [(0, 22, 1), (1, 3, 1)]), true⟩ = true := by decide +kernel
theorem ty368 : tyB Tryz.prog 368 ⟨2, 16, [.i .u64 0, .i .i64 0], (.st [(0, 22, 1), (1, 3, 1)]), true⟩ = true := by decide +kernel
theorem ty369 : tyB Tryz.prog 369 ⟨1, 8, [nf], .fn, false⟩ = true := by decide +kernel
theorem ty371 : tyB Tryz.prog 371 ⟨1, 8, [nf], .fn, false⟩ = true := by decide +kernel
theorem ty372 : tyB Tryz.prog 372 ⟨1, 8, [np], .ptr, false⟩ = true := by decide +kernel
theorem ty373 : tyB Tryz.prog 373 ⟨1, 8, [np], .ptr, false⟩ = true := by decide +kernel
theorem ty374 : tyB Tryz.prog 374 ⟨1, 8, [np], .ptr, false⟩ = true := by decide +kernel
theorem ty375 : tyB Tryz.prog 375 ⟨3, 24, [np, np, np], (.st [(0, 372, 1), (1, 373, 1), (2, 374, 1)]), true⟩ = true := by decide +kernel
theorem ty376 : tyB Tryz.prog 376 ⟨3, 24, [np, np, np], (.st [(0, 372, 1), (1, 373, 1), (2, 374, 1)]), true⟩ = true := by decide +kernel
theorem ty377 : tyB Tryz.prog 377 ⟨1, 8, [nf], .fn, false⟩ = true := by decide +kernel
theorem ty379 : tyB Tryz.prog 379 ⟨1, 8, [nf], .fn, false⟩ = true := by decide +kernel
theorem ty380 : tyB Tryz.prog 380 ⟨1, 8, [nf], .fn, false⟩ = true := by decide +kernel
theorem ty381 : tyB Tryz.prog 381 ⟨1, 8, [nf], .fn, false⟩ = true := by decide +kernel
theorem ty382 : tyB Tryz.prog 382 ⟨1, 8, [nf], .fn, false⟩ = true := by decide +kernel
theorem ty384 : tyB Tryz.prog 384 ⟨1, 8, [nf], .fn, false⟩ = true := by decide +kernel
theorem ty385 : tyB Tryz.prog 385 ⟨1, 24, [ns], (.sl 84), false⟩ = true := by decide +kernel
theorem ty386 : tyB Tryz.prog 386 ⟨2, 32, [.i .u64 0, ns], (.st [(0, 22, 1), (1, 124, 1)]), true⟩ = true := by decide +kernel
theorem ty387 : tyB Tryz.prog 387 ⟨2, 32, [.i .u64 0, ns], (.st [(0, 22, 1), (1, 124, 1)]), true⟩ = true := by decide +kernel
theorem ty388 : tyB Tryz.prog 388 ⟨9, 120, [.i .u64 0, np, ns, .i .i64 0, .i .u64 0, ns, .i .u64 0, ns, np], (.st [(0, 22, 1), (1, 232, 1), (2, 385, 1), (3, 356, 3), (6, 387, 2), (8, 236, 1)]), true⟩ = true := by decide +kernel
theorem ty389 : tyB Tryz.prog 389 ⟨9, 120, [.i .u64 0, np, ns, .i .i64 0, .i .u64 0, ns, .i .u64 0, ns, np], (.st [(0, 22, 1), (1, 232, 1), (2, 385, 1), (3, 356, 3), (6, 387, 2), (8, 236, 1)]), true⟩ = true := by decide +kernel
theorem ty391 : tyB Tryz.prog 391 ⟨1, 8, [nf], .fn, false⟩ = true := by decide +kernel
theorem ty392 : tyB Tryz.prog 392 ⟨1, 8, [nf], .fn, false⟩ = true := by decide +kernel
theorem ty394 : tyB Tryz.prog 394 ⟨1, 8, [nf], .fn, false⟩ = true := by decide +kernel
theorem ty396 : tyB Tryz.prog 396 ⟨1, 8, [nf], .fn, false⟩ = true := by decide +kernel
theorem ty398 : tyB Tryz.prog 398 ⟨1, 8, [nf], .fn, false⟩ = true := by decide +kernel
theorem ty399 : tyB Tryz.prog 399 ⟨1, 8, [nf], .fn, false⟩ = true := by decide +kernel
theorem ty400 : tyB Tryz.prog 400 ⟨1, 8, [nf], .fn, false⟩ = true := by decide +kernel
theorem ty401 : tyB Tryz.prog 401 ⟨1, 8, [nf], .fn, false⟩ = true := by decide +kernel
theorem ty402 : tyB Tryz.prog 402 ⟨1, 8, [nf], .fn, false⟩ = true := by decide +kernel
theorem ty403 : tyB Tryz.prog 403 ⟨1, 8, [nf], .fn, false⟩ = true := by decide +kernel
theorem ty404 : tyB Tryz.prog 404 ⟨1, 8, [nf], .fn, false⟩ = true := by decide +kernel
theorem ty405 : tyB Tryz.prog 405 ⟨1, 8, [nf], .fn, false⟩ = true := by decide +kernel
theorem ty406 : tyB Tryz.prog 406 ⟨1, 8, [nf], .fn, false⟩ = true := by decide +kernel
theorem ty407 : tyB Tryz.prog 407 ⟨1, 8, [np], .ptr, false⟩ = true := by decide +kernel
theorem ty408 : tyB Tryz.prog 408 ⟨1, 8, [nf], .fn, false⟩ = true := by decide +kernel
theorem ty410 : tyB Tryz.prog 410 ⟨1, 8, [nf], .fn, false⟩ = true := by decide +kernel
theorem ty411 : tyB Tryz.prog 411 ⟨1, 8, [nf], .fn, false⟩ = true := by decide +kernel
theorem ty412 : tyB Tryz.prog 412 ⟨1, 8, [nf], .fn, false⟩ = true := by decide +kernel
theorem ty413 : tyB Tryz.prog 413 ⟨1, 8, [nf], .fn, false⟩ = true := by decide +kernel
theorem ty414 : tyB Tryz.prog 414 ⟨1, 8, [nf], .fn, false⟩ = true := by decide +kernel
theorem ty415 : tyB Tryz.prog 415 ⟨1, 8, [nm], (.mp 3 407), false⟩ = true := by decide +kernel
theorem ty416 : tyB Tryz.prog 416 ⟨1, 8, [nm], (.st [(0, 415, 1)]), true⟩ = true := by decide +kernel
theorem ty417 : tyB Tryz.prog 417 ⟨1, 8, [nm], (.st [(0, 415, 1)]), true⟩ = true := by decide +kernel
theorem ty418 : tyB Tryz.prog 418 ⟨1, 8, [nf], .fn, false⟩ = true := by decide +kernel
theorem ty419 : tyB Tryz.prog 419 ⟨27, 232, [.i .u64 0, .i .u64 0, .i .u64 0, .b false, .i .i64 0, .i .i64 0, .i .u64 0, .i .i64 0, .i .i64 0, .i .i64 0, .i .u64 0, .i .i64 0, .i .i64 0, .i .i64 0, .i .i64 0, ns, .i .u64 0, .i .i64 0, .i .u64 0, .i .u64 0, .i .i64 0, .i .i64 0, .i .i64 0, .i .i64 0, .i .i64 0, .i .i64 0, .i .i64 0], (.st [(0, 22, 1), (1, 22, 1), (2, 22, 1), (3, 4, 1), (4, 87, 14), (18, 100, 9)]), true⟩ = true := by decide +kernel
theorem ty420 : tyB Tryz.prog 420 ⟨27, 232, [.i .u64 0, .i .u64 0, .i .u64 0, .b false, .i .i64 0, .i .i64 0, .i .u64 0, .i .i64 0, .i .i64 0, .i .i64 0, .i .u64 0, .i .i64 0, .i .i64 0, .i .i64 0, .i .i64 0, ns, .i .u64 0, .i .i64 0, .i .u64 0, .i .u64 0, .i .i64 0, .i .i64 0, .i .i64 0, .i .i64 0, .i .i64 0, .i .i64 0, .i .i64 0], (.st [(0, 22, 1), (1, 22, 1), (2, 22, 1), (3, 4, 1), (4, 87, 14), (18, 100, 9)]), true⟩ = true := by decide +kernel
theorem ty421 : tyB Tryz.prog 421 ⟨1, 8, [nf], .fn, false⟩ = true := by decide +kernel
theorem ty423 : tyB Tryz.prog 423 ⟨1, 8, [nf], .fn, false⟩ = true := by decide +kernel
end Go.Proofs.YtjdebeibhnjbgaaGreat
