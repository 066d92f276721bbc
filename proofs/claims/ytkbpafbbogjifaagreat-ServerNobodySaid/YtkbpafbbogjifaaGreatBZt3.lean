/- A runner's tables: types. -/
import Derived.Test.YtkbpafbbogjifaaGreatBZp0
namespace Go.Proofs.YtkbpafbbogjifaaGreat
open Go Go.Proofs.Rn
theorem ty291 : tyB Tryz.prog 291 ⟨1, 8, [nf], .fn, false⟩ = true := by decide +kernel
theorem ty292 : tyB Tryz.prog 292 ⟨1, 8, [nf], .fn, false⟩ = true := by decide +kernel
theorem ty293 : tyB Tryz.prog 293 ⟨2, 32, [ns, .b false], (.st [(0, 25, 1), (1, 4, 1)]), true⟩ = true := by decide +kernel
theorem ty294 : tyB Tryz.prog 294 ⟨2, 32, [ns, .b false], (.st [(0, 25, 1), (1, 4, 1)]), true⟩ = true := by decide +kernel
theorem ty295 : tyB Tryz.prog 295 ⟨1, 8, [nf], .fn, false⟩ = true := by decide +kernel
theorem ty296 : tyB Tryz.prog 296 ⟨1, 8, [nf], .fn, false⟩ = true := by decide +kernel
theorem ty297 : tyB Tryz.prog 297 ⟨1, 8, [nf], .fn, false⟩ = true := by decide +kernel
theorem ty298 : tyB Tryz.prog 298 ⟨1, 8, [nf], .fn, false⟩ = true := by decide +kernel
theorem ty299 : tyB Tryz.prog 299 ⟨1, 8, [nf], .fn, false⟩ = true := by decide +kernel
theorem ty300 : tyB Tryz.prog 300 ⟨1, 8, [nf], .fn, false⟩ = true := by decide +kernel
theorem ty301 : tyB Tryz.prog 301 ⟨3, 24, [.i .u64 0, .i .u64 0, .i .i64 0], (.st [(0, 22, 1), (1, 22, 1), (2, 2, 1)]), true⟩ = true := by decide +kernel
theorem ty302 : tyB Tryz.prog 302 ⟨3, 24, [.i .u64 0, .i .u64 0, .i .i64 0], (.st [(0, 22, 1), (1, 22, 1), (2, 2, 1)]), true⟩ = true := by decide +kernel
theorem ty303 : tyB Tryz.prog 303 ⟨1, 8, [nf], .fn, false⟩ = true := by decide +kernel
theorem ty304 : tyB Tryz.prog 304 ⟨1, 8, [nf], .fn, false⟩ = true := by decide +kernel
theorem ty306 : tyB Tryz.prog 306 ⟨1, 8, [nf], .fn, false⟩ = true := by decide +kernel
theorem ty307 : tyB Tryz.prog 307 ⟨1, 8, [nf], .fn, false⟩ = true := by decide +kernel
theorem ty309 : tyB Tryz.prog 309 ⟨1, 8, [nf], .fn, false⟩ = true := by decide +kernel
theorem ty311 : tyB Tryz.prog 311 ⟨1, 8, [nf], .fn, false⟩ = true := by decide +kernel
theorem ty312 : tyB Tryz.prog 312 ⟨1, 8, [nf], .fn, false⟩ = true := by decide +kernel
theorem ty313 : tyB Tryz.prog 313 ⟨1, 8, [nf], .fn, false⟩ = true := by decide +kernel
theorem ty314 : tyB Tryz.prog 314 ⟨1, 8, [nm], (.mp 3 317), false⟩ = true := by decide +kernel
theorem ty315 : tyB Tryz.prog 315 ⟨1, 8, [nm], (.st [(0, 314, 1)]), true⟩ = true := by decide +kernel
theorem ty316 : tyB Tryz.prog 316 ⟨1, 8, [nm], (.st [(0, 314, 1)]), true⟩ = true := by decide +kernel
theorem ty317 : tyB Tryz.prog 317 ⟨1, 8, [np], .ptr, false⟩ = true := by decide +kernel
theorem ty318 : tyB Tryz.prog 318 ⟨1, 8, [nf], .fn, false⟩ = true := by decide +kernel
theorem ty319 : tyB Tryz.prog 319 ⟨27, 232, [.i .u64 0, .i .u64 0, .i .u64 0, .b false, .i .i64 0, .i .i64 0, .i .u64 0, .i .i64 0, .i .i64 0, .i .i64 0, .i .u64 0, .i .i64 0, .i .i64 0, .i .i64 0, .i .i64 0, ns, .i .u64 0, .i .i64 0, .i .u64 0, .i .u64 0, .i .i64 0, .i .i64 0, .i .i64 0, .i .i64 0, .i .i64 0, .i .i64 0, .i .i64 0], (.st [(0, 22, 1), (1, 22, 1), (2, 22, 1), (3, 4, 1), (4, 84, 14), (18, 210, 9)]), true⟩ = true := by decide +kernel
theorem ty320 : tyB Tryz.prog 320 ⟨27, 232, [.i .u64 0, .i .u64 0, .i .u64 0, .b false, .i .i64 0, .i .i64 0, .i .u64 0, .i .i64 0, .i .i64 0, .i .i64 0, .i .u64 0, .i .i64 0, .i .i64 0, .i .i64 0, .i .i64 0, ns, .i .u64 0, .i .i64 0, .i .u64 0, .i .u64 0, .i .i64 0, .i .i64 0, .i .i64 0, .i .i64 0, .i .i64 0, .i .i64 0, .i .i64 0], (.st [(0, 22, 1), (1, 22, 1), (2, 22, 1), (3, 4, 1), (4, 84, 14), (18, 210, 9)]), true⟩ = true := by decide +kernel
theorem ty321 : tyB Tryz.prog 321 ⟨1, 8, [nf], .fn, false⟩ = true := by decide +kernel
theorem ty322 : tyB Tryz.prog 322 ⟨2, 32, [.i .u64 0, ns], (.st [(0, 22, 1), (1, 25, 1)]), true⟩ = true := by decide +kernel
theorem ty323 : tyB Tryz.prog 323 ⟨2, 32, [.i .u64 0, ns], (.st [(0, 22, 1), (1, 25, 1)]), true⟩ = true := by decide +kernel
theorem ty324 : tyB Tryz.prog 324 ⟨1, 8, [nf], .fn, false⟩ = true := by decide +kernel
theorem ty325 : tyB Tryz.prog 325 ⟨1, 8, [nf], .fn, false⟩ = true := by decide +kernel
theorem ty326 : tyB Tryz.prog 326 ⟨1, 8, [nf], .fn, false⟩ = true := by decide +kernel
theorem ty327 : tyB Tryz.prog 327 ⟨1, 8, [nf], .fn, false⟩ = true := by decide +kernel
theorem ty328 : tyB Tryz.prog 328 ⟨1, 8, [nf], .fn, false⟩ = true := by decide +kernel
theorem ty329 : tyB Tryz.prog 329 ⟨1, 8, [nf], .fn, false⟩ = true := by decide +kernel
theorem ty330 : tyB Tryz.prog 330 ⟨1, 8, [nf], .fn, false⟩ = true := by decide +kernel
theorem ty331 : tyB Tryz.prog 331 ⟨1, 8, [nf], .fn, false⟩ = true := by decide +kernel
theorem ty332 : tyB Tryz.prog 332 ⟨1, 8, [nf], .fn, false⟩ = true := by decide +kernel
theorem ty333 : tyB Tryz.prog 333 ⟨1, 8, [nf], .fn, false⟩ = true := by decide +kernel
theorem ty334 : tyB Tryz.prog 334 ⟨1, 8, [nf], .fn, false⟩ = true := by decide +kernel
theorem ty335 : tyB Tryz.prog 335 ⟨1, 8, [nf], .fn, false⟩ = true := by decide +kernel
theorem ty336 : tyB Tryz.prog 336 ⟨1, 8, [np], .ptr, false⟩ = true := by decide +kernel
theorem ty337 : tyB Tryz.prog 337 ⟨2, 16, [np, np], (.arr 2 336), true⟩ = true := by decide +kernel
theorem ty338 : tyB Tryz.prog 338 ⟨2, 16, [.i .i64 0, .i .i64 0], (.st [(0, 2, 1), (1, 2, 1)]), true⟩ = true := by decide +kernel
theorem ty339 : tyB Tryz.prog 339 ⟨2, 16, [.i .i64 0, .i .i64 0], (.st [(0, 2, 1), (1, 2, 1)]), true⟩ = true := by decide +kernel
theorem ty340 : tyB Tryz.prog 340 ⟨1, 8, [nf], .fn, false⟩ = true := by decide +kernel
theorem ty341 : tyB Tryz.prog 341 ⟨1, 8, [nf], .fn, false⟩ = true := by decide +kernel
theorem ty342 : tyB Tryz.prog 342 ⟨2, 16, [.i .i64 0, .i .i64 0], (.st [(0, 2, 1), (1, 3, 1)]), true⟩ = true := by decide +kernel
theorem ty343 : tyB Tryz.prog 343 ⟨2, 16, [.i .i64 0, .i .i64 0], (.st [(0, 2, 1), (1, 3, 1)]), true⟩ = true := by decide +kernel
theorem ty344 : tyB Tryz.prog 344 ⟨1, 8, [nf], .fn, false⟩ = true := by decide +kernel
theorem ty345 : tyB Tryz.prog 345 ⟨1, 8, [nf], .fn, false⟩ = true := by decide +kernel
theorem ty346 : tyB Tryz.prog 346 ⟨1, 8, [nf], .fn, false⟩ = true := by decide +kernel
theorem ty347 : tyB Tryz.prog 347 ⟨1, 8, [nf], .fn, false⟩ = true := by decide +kernel
theorem ty348 : tyB Tryz.prog 348 ⟨2, 48, [ns, ns], (.arr 2 115), true⟩ = true := by decide +kernel
theorem ty349 : tyB Tryz.prog 349 ⟨1, 24, [ns], (.sl 2), false⟩ = true := by decide +kernel
theorem ty350 : tyB Tryz.prog 350 ⟨1, 8, [nf], .fn, false⟩ = true := by decide +kernel
theorem ty351 : tyB Tryz.prog 351 ⟨1, 8, [nf], .fn, false⟩ = true := by decide +kernel
theorem ty352 : tyB Tryz.prog 352 ⟨1, 8, [nf], .fn, false⟩ = true := by decide +kernel
theorem ty353 : tyB Tryz.prog 353 ⟨1, 8, [np], .ptr, false⟩ = true := by decide +kernel
theorem ty354 : tyB Tryz.prog 354 ⟨4, 64, [.i .i64 0, ns, ns, np], (.st [(0, 117, 3), (3, 353, 1)]), true⟩ = true := by decide +kernel
theorem ty355 : tyB Tryz.prog 355 ⟨4, 64, [.i .i64 0, ns, ns, np], (.st [(0, 117, 3), (3, 353, 1)]), true⟩ = true := by decide +kernel
theorem ty356 : tyB Tryz.prog 356 ⟨1, 8, [nf], .fn, false⟩ = true := by decide +kernel
theorem ty357 : tyB Tryz.prog 357 ⟨1, 8, [nf], .fn, false⟩ = true := by decide +kernel
theorem ty358 : tyB Tryz.prog 358 ⟨1, 8, [nf], .fn, false⟩ = true := by decide +kernel
theorem ty359 : tyB Tryz.prog 359 ⟨1, 8, [nf], .fn, false⟩ = true := by decide +kernel
theorem ty360 : tyB Tryz.prog 360 ⟨15, 136, [.i .u64 0, .i .i64 0, .i .i64 0, .i .u64 0, .i .i64 0, .i .i64 0, .i .i64 0, .i .u64 0, .i .i64 0, .i .i64 0, .i .i64 0, .i .i64 0, ns, .i .u64 0, .i .i64 0], (.st [(0, 22, 1), (1, 84, 14)]), true⟩ = true := by decide +kernel
theorem ty361 : tyB Tryz.prog 361 ⟨15, 136, [.i .u64 0, .i .i64 0, .i .i64 0, .i .u64 0, .i .i64 0, .i .i64 0, .i .i64 0, .i .u64 0, .i .i64 0, .i .i64 0, .i .i64 0, .i .i64 0, ns, .i .u64 0, .i .i64 0], (.st [(0, 22, 1), (1, 84, 14)]), true⟩ = true := by decide +kernel
theorem ty362 : tyB Tryz.prog 362 ⟨1, 8, [nf], .fn, false⟩ = true := by decide +kernel
theorem ty363 : tyB Tryz.prog 363 ⟨1, 8, [nf], .fn, false⟩ = true := by decide +kernel
theorem ty364 : tyB Tryz.prog 364 ⟨1, 8, [nf], .fn, false⟩ = true := by decide +kernel
theorem ty365 : tyB Tryz.prog 365 ⟨1, 8, [nf], .fn, false⟩ = true := by decide +kernel
theorem ty366 : tyB Tryz.prog 366 ⟨1, 8, [nf], .fn, false⟩ = true := by decide +kernel
theorem ty367 : tyB Tryz.prog 367 ⟨1, 8, [nf], .fn, false⟩ = true := by decide +kernel
theorem ty368 : tyB Tryz.prog 368 ⟨1, 8, [nf], .fn, false⟩ = true := by decide +kernel
theorem ty370 : tyB Tryz.prog 370 ⟨1, 8, [nf], .fn, false⟩ = true := by decide +kernel
theorem ty371 : tyB Tryz.prog 371 ⟨3, 24, [np, .i .u64 0, .i .i64 0], (.st [(0, 37, 1), (1, 268, 2)]), true⟩ = true := by decide +kernel
theorem ty372 : tyB Tryz.prog 372 ⟨3, 24, [np, .i .u64 0, .i .i64 0], (.st [(0, 37, 1), (1, 268, 2)]), true⟩ = true := by decide +kernel
theorem ty373 : tyB Tryz.prog 373 ⟨5, 72, [np, .i .u64 0, .i .u64 0, ns, ns], (.st [(0, 37, 1), (1, 27, 4)]), true⟩ = true := by decide +kernel
theorem ty374 : tyB Tryz.prog 374 ⟨5, 72, [np, .i .u64 0, .i .u64 0, ns, ns], (.st [(0, 37, 1), (1, 27, 4)]), true⟩ = true := by decide +kernel
theorem ty375 : tyB Tryz.prog 375 ⟨1, 8, [nf], .fn, false⟩ = true := by decide +kernel
theorem ty376 : tyB Tryz.prog 376 ⟨1, 8, [nf], .fn, false⟩ = true := by decide +kernel
theorem ty377 : tyB Tryz.prog 377 ⟨1, 8, [nf], .fn, false⟩ = true := by decide +kernel
theorem ty378 : tyB Tryz.prog 378 ⟨1, 24, [ns], (.sl 479), false⟩ = true := by decide +kernel
theorem ty379 : tyB Tryz.prog 379 ⟨5, 72, [np, .i .u64 0, ns, ns, .i .i64 0], (.st [(0, 37, 1), (1, 22, 1), (2, 23, 1), (3, 378, 1), (4, 3, 1)]), true⟩ = true := by decide +kernel
theorem ty380 : tyB Tryz.prog 380 ⟨5, 72, [np, .i .u64 0, ns, ns, .i .i64 0], (.st [(0, 37, 1), (1, 22, 1), (2, 23, 1), (3, 378, 1), (4, 3, 1)]), true⟩ = true := by decide +kernel
theorem ty381 : tyB Tryz.prog 381 ⟨1, 8, [nf], .fn, false⟩ = true := by decide +kernel
theorem ty383 : tyB Tryz.prog 383 ⟨1, 8, [nf], .fn, false⟩ = true := by decide +kernel
theorem ty384 : tyB Tryz.prog 384 ⟨1, 8, [nf], .fn, false⟩ = true := by decide +kernel
theorem ty385 : tyB Tryz.prog 385 ⟨1, 8, [np], .ptr, false⟩ = true := by decide +kernel
theorem ty386 : tyB Tryz.prog 386 ⟨1, 8, [nm], (.mp 22 302), false⟩ = true := by decide +kernel
theorem ty387 : tyB Tryz.prog 387 ⟨1, 8, [nm], (.st [(0, 386, 1)]), true⟩ = true := by decide +kernel
theorem ty388 : tyB Tryz.prog 388 ⟨1, 8, [nm], (.st [(0, 386, 1)]), true⟩ = true := by decide +kernel
theorem ty389 : tyB Tryz.prog 389 ⟨1, 8, [np], .ptr, false⟩ = true := by decide +kernel
theorem ty390 : tyB Tryz.prog 390 ⟨4, 32, [np, np, np, np], (.arr 4 389), true⟩ = true := by decide +kernel
theorem ty391 : tyB Tryz.prog 391 ⟨6, 48, [.i .i64 0, np, np, np, np, np], (.st [(0, 2, 1), (1, 390, 4), (5, 385, 1)]), true⟩ = true := by decide +kernel
theorem ty392 : tyB Tryz.prog 392 ⟨6, 48, [.i .i64 0, np, np, np, np, np], (.st [(0, 2, 1), (1, 390, 4), (5, 385, 1)]), true⟩ = true := by decide +kernel
theorem ty393 : tyB Tryz.prog 393 ⟨1, 8, [nf], .fn, false⟩ = true := by decide +kernel
theorem ty395 : tyB Tryz.prog 395 ⟨1, 8, [nf], .fn, false⟩ = true := by decide +kernel
theorem ty397 : tyB Tryz.prog 397 ⟨1, 8, [nf], .fn, false⟩ = true := by decide +kernel
theorem ty398 : tyB Tryz.prog 398 ⟨1, 8, [.i .u64 0], (.int .u64), false⟩ = true := by decide +kernel
theorem ty400 : tyB Tryz.prog 400 ⟨1, 8, [nf], .fn, false⟩ = true := by decide +kernel
theorem ty401 : tyB Tryz.prog 401 ⟨1, 8, [nf], .fn, false⟩ = true := by decide +kernel
theorem ty402 : tyB Tryz.prog 402 ⟨1, 8, [np], .ptr, false⟩ = true := by decide +kernel
theorem ty404 : tyB Tryz.prog 404 ⟨1, 8, [nf], .fn, false⟩ = true := by decide +kernel
theorem ty405 : tyB Tryz.prog 405 ⟨1, 8, [nf], .fn, false⟩ = true := by decide +kernel
theorem ty406 : tyB Tryz.prog 406 ⟨1, 8, [nf], .fn, false⟩ = true := by decide +kernel
theorem ty407 : tyB Tryz.prog 407 ⟨1, 8, [nm], (.mp 22 4), false⟩ = true := by decide +kernel
theorem ty408 : tyB Tryz.prog 408 ⟨1, 8, [nf], .fn, false⟩ = true := by decide +kernel
theorem ty409 : tyB Tryz.prog 409 ⟨1, 8, [nf], .fn, false⟩ = true := by decide +kernel
theorem ty410 : tyB Tryz.prog 410 ⟨1, 8, [nf], .fn, false⟩ = true := by decide +kernel
theorem ty411 : tyB Tryz.prog 411 ⟨1, 8, [nf], .fn, false⟩ = true := by decide +kernel
theorem ty412 : tyB Tryz.prog 412 ⟨1, 8, [nf], .fn, false⟩ = true := by decide +kernel
theorem ty413 : tyB Tryz.prog 413 ⟨1, 8, [nf], .fn, false⟩ = true := by decide +kernel
theorem ty415 : tyB Tryz.prog 415 ⟨1, 8, [nf], .fn, false⟩ = true := by decide +kernel
theorem ty417 : tyB Tryz.prog 417 ⟨1, 8, [nf], .fn, false⟩ = true := by decide +kernel
theorem ty419 : tyB Tryz.prog 419 ⟨1, 8, [nf], .fn, false⟩ = true := by decide +kernel
theorem ty420 : tyB Tryz.prog 420 ⟨1, 8, [nf], .fn, false⟩ = true := by decide +kernel
theorem ty421 : tyB Tryz.prog 421 ⟨1, 8, [nf], .fn, false⟩ = true := by decide +kernel
theorem ty422 : tyB Tryz.prog 422 ⟨1, 8, [nf], .fn, false⟩ = true := by decide +kernel
theorem ty423 : tyB Tryz.prog 423 ⟨1, 8, [nf], .fn, false⟩ = true := by decide +kernel
theorem ty425 : tyB Tryz.prog 425 ⟨1, 8, [nf], .fn, false⟩ = true := by decide +kernel
theorem ty427 : tyB Tryz.prog 427 ⟨1, 8, [nf], .fn, false⟩ = true := by decide +kernel
theorem ty428 : tyB Tryz.prog 428 ⟨1, 8, [nf], .fn, false⟩ = true := by decide +kernel
theorem ty429 : tyB Tryz.prog 429 ⟨1, 8, [nf], .fn, false⟩ = true := by decide +kernel
theorem ty430 : tyB Tryz.prog 430 ⟨1, 8, [nf], .fn, false⟩ = true := by decide +kernel
theorem ty431 : tyB Tryz.prog 431 ⟨1, 8, [nf], .fn, false⟩ = true := by decide +kernel
theorem ty432 : tyB Tryz.prog 432 ⟨1, 8, [nf], .fn, false⟩ = true := by decide +kernel
theorem ty433 : tyB Tryz.prog 433 ⟨1, 8, [nf], .fn, false⟩ = true := by decide +kernel
theorem ty434 : tyB Tryz.prog 434 ⟨1, 8, [nf], .fn, false⟩ = true := by decide +kernel
end Go.Proofs.YtkbpafbbogjifaaGreat
