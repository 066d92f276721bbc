/- A runner's tables: types. -/
import Derived.Test.YtkbpafbbogjifaaGreatBZp0
namespace Go.Proofs.YtkbpafbbogjifaaGreat
open Go Go.Proofs.Rn
theorem ty435 : tyB Tryz.prog 435 ⟨1, 8, [nf], .fn, false⟩ = true := by decide +kernel
theorem ty436 : tyB Tryz.prog 436 ⟨1, 8, [nf], .fn, false⟩ = true := by decide +kernel
theorem ty437 : tyB Tryz.prog 437 ⟨1, 8, [nf], .fn, false⟩ = true := by decide +kernel
theorem ty438 : tyB Tryz.prog 438 ⟨1, 8, [nf], .fn, false⟩ = true := by decide +kernel
theorem ty439 : tyB Tryz.prog 439 ⟨1, 8, [nf], .fn, false⟩ = true := by decide +kernel
theorem ty440 : tyB Tryz.prog 440 ⟨7, 7, [.b false, .b false, .b false, .b false, .b false, .b false, .b false], (.st [(0, 4, 1), (1, 4, 1), (2, 4, 1), (3, 4, 1), (4, 4, 1), (5, 4, 1), (6, 4, 1)]), true⟩ = true := by decide +kernel
theorem ty441 : tyB Tryz.prog 441 ⟨1, 8, [nf], .fn, false⟩ = true := by decide +kernel
theorem ty442 : tyB Tryz.prog 442 ⟨1, 8, [nf], .fn, false⟩ = true := by decide +kernel
theorem ty443 : tyB Tryz.prog 443 ⟨1, 8, [nf], .fn, false⟩ = true := by decide +kernel
theorem ty444 : tyB Tryz.prog 444 ⟨1, 8, [nf], .fn, false⟩ = true := by decide +kernel
theorem ty445 : tyB Tryz.prog 445 ⟨4, 32, [.i .u64 0, .i .u64 0, .i .u64 0, .i .u64 0], (.arr 4 22), true⟩ = true := by decide +kernel
theorem ty446 : tyB Tryz.prog 446 ⟨1, 8, [nf], .fn, false⟩ = true := by decide +kernel
theorem ty447 : tyB Tryz.prog 447 ⟨1, 8, [nf], .fn, false⟩ = true := by decide +kernel
theorem ty448 : tyB Tryz.prog 448 ⟨1, 8, [nf], .fn, false⟩ = true := by decide +kernel
theorem ty449 : tyB Tryz.prog 449 ⟨1, 8, [nf], .fn, false⟩ = true := by decide +kernel
theorem ty450 : tyB Tryz.prog 450 ⟨1, 8, [nf], .fn, false⟩ = true := by decide +kernel
theorem ty451 : tyB Tryz.prog 451 ⟨1, 8, [nf], .fn, false⟩ = true := by decide +kernel
theorem ty452 : tyB Tryz.prog 452 ⟨1, 8, [nf], .fn, false⟩ = true := by decide +kernel
theorem ty453 : tyB Tryz.prog 453 ⟨1, 8, [nf], .fn, false⟩ = true := by decide +kernel
theorem ty454 : tyB Tryz.prog 454 ⟨1, 8, [nf], .fn, false⟩ = true := by decide +kernel
theorem ty455 : tyB Tryz.prog 455 ⟨1, 8, [nf], .fn, false⟩ = true := by decide +kernel
theorem ty456 : tyB Tryz.prog 456 ⟨1, 8, [nf], .fn, false⟩ = true := by decide +kernel
theorem ty457 : tyB Tryz.prog 457 ⟨1, 8, [nf], .fn, false⟩ = true := by decide +kernel
theorem ty458 : tyB Tryz.prog 458 ⟨1, 8, [nf], .fn, false⟩ = true := by decide +kernel
theorem ty459 : tyB Tryz.prog 459 ⟨1, 8, [nf], .fn, false⟩ = true := by decide +kernel
theorem ty461 : tyB Tryz.prog 461 ⟨1, 8, [nf], .fn, false⟩ = true := by decide +kernel
theorem ty462 : tyB Tryz.prog 462 ⟨1, 8, [nf], .fn, false⟩ = true := by decide +kernel
theorem ty463 : tyB Tryz.prog 463 ⟨2, 32, [ns, .i .i64 0], (.st [(0, 25, 1), (1, 3, 1)]), true⟩ = true := by decide +kernel
theorem ty464 : tyB Tryz.prog 464 ⟨2, 32, [ns, .i .i64 0], (.st [(0, 25, 1), (1, 3, 1)]), true⟩ = true := by decide +kernel
theorem ty466 : tyB Tryz.prog 466 ⟨1, 8, [nf], .fn, false⟩ = true := by decide +kernel
theorem ty467 : tyB Tryz.prog 467 ⟨1, 8, [nf], .fn, false⟩ = true := by decide +kernel
theorem ty468 : tyB Tryz.prog 468 ⟨1, 24, [ns], (.sl 9), false⟩ = true := by decide +kernel
theorem ty469 : tyB Tryz.prog 469 ⟨1, 8, [nf], .fn, false⟩ = true := by decide +kernel
theorem ty470 : tyB Tryz.prog 470 ⟨1, 8, [nf], .fn, false⟩ = true := by decide +kernel
theorem ty471 : tyB Tryz.prog 471 ⟨1, 8, [nf], .fn, false⟩ = true := by decide +kernel
theorem ty472 : tyB Tryz.prog 472 ⟨1, 8, [nf], .fn, false⟩ = true := by decide +kernel
theorem ty474 : tyB Tryz.prog 474 ⟨1, 8, [nf], .fn, false⟩ = true := by decide +kernel
theorem ty475 : tyB Tryz.prog 475 ⟨1, 8, [np], .ptr, false⟩ = true := by decide +kernel
theorem ty476 : tyB Tryz.prog 476 ⟨1, 8, [nf], .fn, false⟩ = true := by decide +kernel
theorem ty477 : tyB Tryz.prog 477 ⟨1, 8, [nf], .fn, false⟩ = true := by decide +kernel
theorem ty478 : tyB Tryz.prog 478 ⟨3, 24, [.i .u64 0, .i .i64 0, .i .i64 0], (.st [(0, 22, 1), (1, 3, 1), (2, 3, 1)]), true⟩ = true := by decide +kernel
theorem ty479 : tyB Tryz.prog 479 ⟨3, 24, [.i .u64 0, .i .i64 0, .i .i64 0], (.st [(0, 22, 1), (1, 3, 1), (2, 3, 1)]), true⟩ = true := by decide +kernel
theorem ty480 : tyB Tryz.prog 480 ⟨1, 8, [nf], .fn, false⟩ = true := by decide +kernel
theorem ty481 : tyB Tryz.prog 481 ⟨1, 8, [nm], (.mp 22 3), false⟩ = true := by decide +kernel
theorem ty482 : tyB Tryz.prog 482 ⟨64, 1536, [ns, ns, ns, ns, ns, ns, ns, ns, ns, ns, ns, ns, ns, ns, ns, ns, ns, ns, ns, ns, ns, ns, ns, ns, ns, ns, ns, ns, ns, ns, ns, ns, ns, ns, ns, ns, ns, ns, ns, ns, ns, ns, ns, ns, ns, ns, ns, ns, ns, ns, ns, ns, ns, ns, ns, ns, ns, ns, ns, ns, ns, ns, ns, ns], (.arr 64 178), true⟩ = true := by decide +kernel
theorem ty483 : tyB Tryz.prog 483 ⟨66, 1552, [ns, ns, ns, ns, ns, ns, ns, ns, ns, ns, ns, ns, ns, ns, ns, ns, ns, ns, ns, ns, ns, ns, ns, ns, ns, ns, ns, ns, ns, ns, ns, ns, ns, ns, ns, ns, ns, ns, ns, ns, ns, ns, ns, ns, ns, ns, ns, ns, ns, ns, ns, ns, ns, ns, ns, ns, ns, ns, ns, ns, ns, ns, ns, ns, .i .u64 0, nm], (.st [(0, 482, 64), (64, 22, 1), (65, 481, 1)]), true⟩ = true := by decide +kernel
theorem ty484 : tyB Tryz.prog 484 ⟨66, 1552, [ns, ns, ns, ns, ns, ns, ns, ns, ns, ns, ns, ns, ns, ns, ns, ns, ns, ns, ns, ns, ns, ns, ns, ns, ns, ns, ns, ns, ns, ns, ns, ns, ns, ns, ns, ns, ns, ns, ns, ns, ns, ns, ns, ns, ns, ns, ns, ns, ns, ns, ns, ns, ns, ns, ns, ns, ns, ns, ns, ns, ns, ns, ns, ns, .i .u64 0, nm], (.st [(0, 482, 64), (64, 22, 1), (65, 481, 1)]), true⟩ = true := by decide +kernel
theorem ty485 : tyB Tryz.prog 485 ⟨1, 4, [.i .u32 0], (.int .u32), false⟩ = true := by decide +kernel
theorem ty486 : tyB Tryz.prog 486 ⟨1, 8, [nf], .fn, false⟩ = true := by decide +kernel
theorem ty487 : tyB Tryz.prog 487 ⟨1, 8, [nf], .fn, false⟩ = true := by decide +kernel
theorem ty488 : tyB Tryz.prog 488 ⟨0, 0, [], (.st []), true⟩ = true := by decide +kernel
theorem ty489 : tyB Tryz.prog 489 ⟨1, 4, [.i .u32 0], (.st [(0, 139, 0), (0, 485, 1)]), false⟩ = true := by decide +kernel
theorem ty490 : tyB Tryz.prog 490 ⟨1, 4, [.i .u32 0], (.st [(0, 139, 0), (0, 485, 1)]), false⟩ = true := by decide +kernel
theorem ty491 : tyB Tryz.prog 491 ⟨2, 8, [.i .i32 0, .i .u32 0], (.st [(0, 21, 1), (1, 485, 1)]), true⟩ = true := by decide +kernel
theorem ty492 : tyB Tryz.prog 492 ⟨2, 8, [.i .i32 0, .i .u32 0], (.st [(0, 21, 1), (1, 485, 1)]), true⟩ = true := by decide +kernel
theorem ty493 : tyB Tryz.prog 493 ⟨2, 8, [.i .i32 0, .i .u32 0], (.st [(0, 488, 0), (0, 492, 2)]), false⟩ = true := by decide +kernel
theorem ty494 : tyB Tryz.prog 494 ⟨2, 8, [.i .i32 0, .i .u32 0], (.st [(0, 488, 0), (0, 492, 2)]), false⟩ = true := by decide +kernel
theorem ty495 : tyB Tryz.prog 495 ⟨3, 12, [.i .u32 0, .i .i32 0, .i .u32 0], (.st [(0, 488, 0), (0, 490, 1), (1, 494, 2)]), false⟩ = true := by decide +kernel
theorem ty496 : tyB Tryz.prog 496 ⟨3, 12, [.i .u32 0, .i .i32 0, .i .u32 0], (.st [(0, 488, 0), (0, 490, 1), (1, 494, 2)]), false⟩ = true := by decide +kernel
theorem ty497 : tyB Tryz.prog 497 ⟨1, 8, [.i .i64 0], (.st [(0, 139, 0), (0, 140, 0), (0, 2, 1)]), false⟩ = true := by decide +kernel
theorem ty498 : tyB Tryz.prog 498 ⟨1, 8, [.i .i64 0], (.st [(0, 139, 0), (0, 140, 0), (0, 2, 1)]), false⟩ = true := by decide +kernel
theorem ty499 : tyB Tryz.prog 499 ⟨7, 40, [.i .u32 0, .i .i32 0, .i .u32 0, .i .u32 0, .i .i64 0, nf, np], (.st [(0, 496, 3), (3, 490, 1), (4, 498, 1), (5, 405, 1), (6, 402, 1)]), true⟩ = true := by decide +kernel
theorem ty500 : tyB Tryz.prog 500 ⟨7, 40, [.i .u32 0, .i .i32 0, .i .u32 0, .i .u32 0, .i .i64 0, nf, np], (.st [(0, 496, 3), (3, 490, 1), (4, 498, 1), (5, 405, 1), (6, 402, 1)]), true⟩ = true := by decide +kernel
theorem ty501 : tyB Tryz.prog 501 ⟨1, 8, [np], .ptr, false⟩ = true := by decide +kernel
theorem ty503 : tyB Tryz.prog 503 ⟨1, 8, [nf], .fn, false⟩ = true := by decide +kernel
theorem ty504 : tyB Tryz.prog 504 ⟨1, 8, [np], .ptr, false⟩ = true := by decide +kernel
theorem ty506 : tyB Tryz.prog 506 ⟨1, 8, [nf], .fn, false⟩ = true := by decide +kernel
theorem ty507 : tyB Tryz.prog 507 ⟨3, 24, [np, np, .i .i64 0], (.st [(0, 504, 1), (1, 501, 1), (2, 2, 1)]), true⟩ = true := by decide +kernel
theorem ty508 : tyB Tryz.prog 508 ⟨3, 24, [np, np, .i .i64 0], (.st [(0, 504, 1), (1, 501, 1), (2, 2, 1)]), true⟩ = true := by decide +kernel
theorem ty509 : tyB Tryz.prog 509 ⟨1, 8, [nf], .fn, false⟩ = true := by decide +kernel
theorem ty510 : tyB Tryz.prog 510 ⟨1, 8, [nf], .fn, false⟩ = true := by decide +kernel
theorem ty511 : tyB Tryz.prog 511 ⟨1, 8, [nf], .fn, false⟩ = true := by decide +kernel
theorem ty512 : tyB Tryz.prog 512 ⟨1, 8, [nf], .fn, false⟩ = true := by decide +kernel
theorem ty514 : tyB Tryz.prog 514 ⟨1, 8, [nf], .fn, false⟩ = true := by decide +kernel
theorem ty515 : tyB Tryz.prog 515 ⟨1, 8, [nf], .fn, false⟩ = true := by decide +kernel
theorem ty516 : tyB Tryz.prog 516 ⟨1, 8, [nf], .fn, false⟩ = true := by decide +kernel
theorem ty517 : tyB Tryz.prog 517 ⟨1, 8, [nf], .fn, false⟩ = true := by decide +kernel
theorem ty518 : tyB Tryz.prog 518 ⟨1, 8, [nf], .fn, false⟩ = true := by decide +kernel
theorem ty519 : tyB Tryz.prog 519 ⟨1, 8, [nf], .fn, false⟩ = true := by decide +kernel
theorem ty520 : tyB Tryz.prog 520 ⟨1, 8, [nf], .fn, false⟩ = true := by decide +kernel
theorem ty521 : tyB Tryz.prog 521 ⟨1, 8, [nf], .fn, false⟩ = true := by decide +kernel
theorem ty522 : tyB Tryz.prog 522 ⟨1, 8, [nm], (.mp 3 3), false⟩ = true := by decide +kernel
theorem ty523 : tyB Tryz.prog 523 ⟨2, 32, [ns, nm], (.st [(0, 24, 1), (1, 522, 1)]), true⟩ = true := by decide +kernel
theorem ty524 : tyB Tryz.prog 524 ⟨2, 32, [ns, nm], (.st [(0, 24, 1), (1, 522, 1)]), true⟩ = true := by decide +kernel
theorem ty525 : tyB Tryz.prog 525 ⟨1, 8, [nf], .fn, false⟩ = true := by decide +kernel
theorem ty526 : tyB Tryz.prog 526 ⟨1, 8, [nf], .fn, false⟩ = true := by decide +kernel
theorem ty528 : tyB Tryz.prog 528 ⟨1, 8, [nf], .fn, false⟩ = true := by decide +kernel
theorem ty529 : tyB Tryz.prog 529 ⟨1, 8, [nf], .fn, false⟩ = true := by decide +kernel
theorem ty531 : tyB Tryz.prog 531 ⟨1, 8, [nf], .fn, false⟩ = true := by decide +kernel
theorem ty532 : tyB Tryz.prog 532 ⟨1, 8, [nf], .fn, false⟩ = true := by decide +kernel
theorem ty533 : tyB Tryz.prog 533 ⟨1, 8, [nf], .fn, false⟩ = true := by decide +kernel
theorem ty534 : tyB Tryz.prog 534 ⟨1, 8, [nf], .fn, false⟩ = true := by decide +kernel
theorem ty535 : tyB Tryz.prog 535 ⟨1, 8, [nf], .fn, false⟩ = true := by decide +kernel
theorem ty536 : tyB Tryz.prog 536 ⟨1, 8, [nf], .fn, false⟩ = true := by decide +kernel
theorem ty537 : tyB Tryz.prog 537 ⟨4, 32, [nf, nf, nf, nf], (.arr 4 101), true⟩ = true := by decide +kernel
theorem ty538 : tyB Tryz.prog 538 ⟨1, 8, [nf], .fn, false⟩ = true := by decide +kernel
theorem ty539 : tyB Tryz.prog 539 ⟨1, 8, [nf], .fn, false⟩ = true := by decide +kernel
theorem ty540 : tyB Tryz.prog 540 ⟨1, 8, [nf], .fn, false⟩ = true := by decide +kernel
theorem ty541 : tyB Tryz.prog 541 ⟨1, 8, [nf], .fn, false⟩ = true := by decide +kernel
theorem ty542 : tyB Tryz.prog 542 ⟨1, 8, [nf], .fn, false⟩ = true := by decide +kernel
theorem ty543 : tyB Tryz.prog 543 ⟨1, 8, [nf], .fn, false⟩ = true := by decide +kernel
theorem ty544 : tyB Tryz.prog 544 ⟨1, 8, [nf], .fn, false⟩ = true := by decide +kernel
theorem ty545 : tyB Tryz.prog 545 ⟨1, 8, [nf], .fn, false⟩ = true := by decide +kernel
theorem ty546 : tyB Tryz.prog 546 ⟨1, 8, [nf], .fn, false⟩ = true := by decide +kernel
theorem ty547 : tyB Tryz.prog 547 ⟨1, 8, [nf], .fn, false⟩ = true := by decide +kernel
theorem ty548 : tyB Tryz.prog 548 ⟨1, 8, [nf], .fn, false⟩ = true := by decide +kernel
theorem ty549 : tyB Tryz.prog 549 ⟨1, 8, [nf], .fn, false⟩ = true := by decide +kernel
theorem ty550 : tyB Tryz.prog 550 ⟨1, 8, [nf], .fn, false⟩ = true := by decide +kernel
theorem ty551 : tyB Tryz.prog 551 ⟨1, 8, [nf], .fn, false⟩ = true := by decide +kernel
theorem ty552 : tyB Tryz.prog 552 ⟨1, 8, [nf], .fn, false⟩ = true := by decide +kernel
theorem ty553 : tyB Tryz.prog 553 ⟨1, 8, [nf], .fn, false⟩ = true := by decide +kernel
theorem ty554 : tyB Tryz.prog 554 ⟨1, 8, [nf], .fn, false⟩ = true := by decide +kernel
theorem ty555 : tyB Tryz.prog 555 ⟨1, 8, [nf], .fn, false⟩ = true := by decide +kernel
theorem ty556 : tyB Tryz.prog 556 ⟨1, 8, [nf], .fn, false⟩ = true := by decide +kernel
theorem ty557 : tyB Tryz.prog 557 ⟨1, 8, [nf], .fn, false⟩ = true := by decide +kernel
theorem ty558 : tyB Tryz.prog 558 ⟨1, 8, [nf], .fn, false⟩ = true := by decide +kernel
theorem ty559 : tyB Tryz.prog 559 ⟨1, 8, [nf], .fn, false⟩ = true := by decide +kernel
theorem ty560 : tyB Tryz.prog 560 ⟨1, 8, [nf], .fn, false⟩ = true := by decide +kernel
theorem ty561 : tyB Tryz.prog 561 ⟨1, 8, [nf], .fn, false⟩ = true := by decide +kernel
theorem ty563 : tyB Tryz.prog 563 ⟨1, 8, [nf], .fn, false⟩ = true := by decide +kernel
theorem ty564 : tyB Tryz.prog 564 ⟨1, 8, [nf], .fn, false⟩ = true := by decide +kernel
theorem ty565 : tyB Tryz.prog 565 ⟨1, 8, [nf], .fn, false⟩ = true := by decide +kernel
theorem ty566 : tyB Tryz.prog 566 ⟨1, 8, [nf], .fn, false⟩ = true := by decide +kernel
theorem ty567 : tyB Tryz.prog 567 ⟨1, 8, [nf], .fn, false⟩ = true := by decide +kernel
theorem ty568 : tyB Tryz.prog 568 ⟨1, 8, [nf], .fn, false⟩ = true := by decide +kernel
theorem ty569 : tyB Tryz.prog 569 ⟨1, 8, [nf], .fn, false⟩ = true := by decide +kernel
theorem ty571 : tyB Tryz.prog 571 ⟨1, 8, [nf], .fn, false⟩ = true := by decide +kernel
theorem ty572 : tyB Tryz.prog 572 ⟨1, 8, [nf], .fn, false⟩ = true := by decide +kernel
theorem ty573 : tyB Tryz.prog 573 ⟨1, 8, [nf], .fn, false⟩ = true := by decide +kernel
theorem ty574 : tyB Tryz.prog 574 ⟨1, 8, [np], .ptr, false⟩ = true := by decide +kernel
end Go.Proofs.YtkbpafbbogjifaaGreat
