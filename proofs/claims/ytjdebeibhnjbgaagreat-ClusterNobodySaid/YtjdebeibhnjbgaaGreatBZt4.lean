/- A runner's tables: types. -/
import Derived.Test.YtjdebeibhnjbgaaGreatBZp0
namespace Go.Proofs.YtjdebeibhnjbgaaGreat
open Go Go.Proofs.Rn
theorem ty424 : tyB Tryz.prog 424 ⟨1, 8, [nf], .fn, false⟩ = true := by decide +kernel
theorem ty425 : tyB Tryz.prog 425 ⟨1, 8, [nf], .fn, false⟩ = true := by decide +kernel
theorem ty426 : tyB Tryz.prog 426 ⟨1, 8, [nf], .fn, false⟩ = true := by decide +kernel
theorem ty427 : tyB Tryz.prog 427 ⟨1, 8, [nf], .fn, false⟩ = true := by decide +kernel
theorem ty428 : tyB Tryz.prog 428 ⟨1, 8, [nf], .fn, false⟩ = true := by decide +kernel
theorem ty429 : tyB Tryz.prog 429 ⟨1, 8, [nf], .fn, false⟩ = true := by decide +kernel
theorem ty430 : tyB Tryz.prog 430 ⟨1, 8, [nf], .fn, false⟩ = true := by decide +kernel
theorem ty431 : tyB Tryz.prog 431 ⟨2, 32, [ns, .b false], (.st [(0, 98, 1), (1, 4, 1)]), true⟩ = true := by decide +kernel
theorem ty432 : tyB Tryz.prog 432 ⟨2, 32, [ns, .b false], (.st [(0, 98, 1), (1, 4, 1)]), true⟩ = true := by decide +kernel
theorem ty433 : tyB Tryz.prog 433 ⟨1, 8, [nf], .fn, false⟩ = true := by decide +kernel
theorem ty434 : tyB Tryz.prog 434 ⟨1, 8, [np], .ptr, false⟩ = true := by decide +kernel
theorem ty435 : tyB Tryz.prog 435 ⟨2, 16, [np, np], (.arr 2 434), true⟩ = true := by decide +kernel
theorem ty436 : tyB Tryz.prog 436 ⟨2, 16, [.i .i64 0, .i .i64 0], (.st [(0, 2, 1), (1, 2, 1)]), true⟩ = true := by decide +kernel
theorem ty437 : tyB Tryz.prog 437 ⟨2, 16, [.i .i64 0, .i .i64 0], (.st [(0, 2, 1), (1, 2, 1)]), true⟩ = true := by decide +kernel
theorem ty438 : tyB Tryz.prog 438 ⟨1, 8, [nf], .fn, false⟩ = true := by decide +kernel
theorem ty439 : tyB Tryz.prog 439 ⟨1, 8, [nf], .fn, false⟩ = true := by decide +kernel
theorem ty440 : tyB Tryz.prog 440 ⟨2, 16, [.i .i64 0, .i .i64 0], (.st [(0, 2, 1), (1, 3, 1)]), true⟩ = true := by decide +kernel
theorem ty441 : tyB Tryz.prog 441 ⟨2, 16, [.i .i64 0, .i .i64 0], (.st [(0, 2, 1), (1, 3, 1)]), true⟩ = true := by decide +kernel
theorem ty442 : tyB Tryz.prog 442 ⟨1, 8, [nf], .fn, false⟩ = true := by decide +kernel
theorem ty443 : tyB Tryz.prog 443 ⟨1, 8, [nf], .fn, false⟩ = true := by decide +kernel
theorem ty444 : tyB Tryz.prog 444 ⟨1, 8, [nf], .fn, false⟩ = true := by decide +kernel
theorem ty445 : tyB Tryz.prog 445 ⟨1, 8, [nf], .fn, false⟩ = true := by decide +kernel
theorem ty446 : tyB Tryz.prog 446 ⟨2, 48, [ns, ns], (.arr 2 23), true⟩ = true := by decide +kernel
theorem ty447 : tyB Tryz.prog 447 ⟨1, 24, [ns], (.sl 2), false⟩ = true := by decide +kernel
theorem ty448 : tyB Tryz.prog 448 ⟨1, 8, [nf], .fn, false⟩ = true := by decide +kernel
theorem ty449 : tyB Tryz.prog 449 ⟨3, 24, [.i .u64 0, .i .u64 0, .i .i64 0], (.st [(0, 22, 1), (1, 22, 1), (2, 2, 1)]), true⟩ = true := by decide +kernel
theorem ty450 : tyB Tryz.prog 450 ⟨3, 24, [.i .u64 0, .i .u64 0, .i .i64 0], (.st [(0, 22, 1), (1, 22, 1), (2, 2, 1)]), true⟩ = true := by decide +kernel
theorem ty451 : tyB Tryz.prog 451 ⟨1, 8, [nf], .fn, false⟩ = true := by decide +kernel
theorem ty452 : tyB Tryz.prog 452 ⟨1, 8, [nf], .fn, false⟩ = true := by decide +kernel
theorem ty453 : tyB Tryz.prog 453 ⟨4, 32, [np, np, np, .b false], (.st [(0, 376, 3), (3, 4, 1)]), true⟩ = true := by decide +kernel
theorem ty454 : tyB Tryz.prog 454 ⟨4, 32, [np, np, np, .b false], (.st [(0, 376, 3), (3, 4, 1)]), true⟩ = true := by decide +kernel
theorem ty455 : tyB Tryz.prog 455 ⟨1, 24, [ns], (.sl 606), false⟩ = true := by decide +kernel
theorem ty456 : tyB Tryz.prog 456 ⟨5, 72, [np, .i .u64 0, ns, ns, .i .i64 0], (.st [(0, 42, 1), (1, 22, 1), (2, 207, 1), (3, 455, 1), (4, 3, 1)]), true⟩ = true := by decide +kernel
theorem ty457 : tyB Tryz.prog 457 ⟨5, 72, [np, .i .u64 0, ns, ns, .i .i64 0], (.st [(0, 42, 1), (1, 22, 1), (2, 207, 1), (3, 455, 1), (4, 3, 1)]), true⟩ = true := by decide +kernel
theorem ty459 : tyB Tryz.prog 459 ⟨1, 8, [nf], .fn, false⟩ = true := by decide +kernel
theorem ty461 : tyB Tryz.prog 461 ⟨1, 8, [nf], .fn, false⟩ = true := by decide +kernel
theorem ty463 : tyB Tryz.prog 463 ⟨1, 8, [nf], .fn, false⟩ = true := by decide +kernel
theorem ty465 : tyB Tryz.prog 465 ⟨1, 8, [nf], .fn, false⟩ = true := by decide +kernel
theorem ty466 : tyB Tryz.prog 466 ⟨1, 8, [nf], .fn, false⟩ = true := by decide +kernel
theorem ty467 : tyB Tryz.prog 467 ⟨1, 8, [nf], .fn, false⟩ = true := by decide +kernel
theorem ty468 : tyB Tryz.prog 468 ⟨1, 8, [nf], .fn, false⟩ = true := by decide +kernel
theorem ty469 : tyB Tryz.prog 469 ⟨4, 48, [.b false, .i .u64 0, .i .u64 0, ns], (.st [(0, 4, 1), (1, 22, 1), (2, 22, 1), (3, 250, 1)]), true⟩ = true := by decide +kernel
theorem ty470 : tyB Tryz.prog 470 ⟨4, 48, [.b false, .i .u64 0, .i .u64 0, ns], (.st [(0, 4, 1), (1, 22, 1), (2, 22, 1), (3, 250, 1)]), true⟩ = true := by decide +kernel
theorem ty471 : tyB Tryz.prog 471 ⟨1, 8, [nf], .fn, false⟩ = true := by decide +kernel
theorem ty473 : tyB Tryz.prog 473 ⟨1, 8, [nf], .fn, false⟩ = true := by decide +kernel
theorem ty474 : tyB Tryz.prog 474 ⟨1, 8, [nf], .fn, false⟩ = true := by decide +kernel
theorem ty475 : tyB Tryz.prog 475 ⟨1, 8, [nf], .fn, false⟩ = true := by decide +kernel
theorem ty476 : tyB Tryz.prog 476 ⟨1, 8, [nf], .fn, false⟩ = true := by decide +kernel
theorem ty477 : tyB Tryz.prog 477 ⟨1, 8, [nf], .fn, false⟩ = true := by decide +kernel
theorem ty479 : tyB Tryz.prog 479 ⟨1, 8, [nf], .fn, false⟩ = true := by decide +kernel
theorem ty480 : tyB Tryz.prog 480 ⟨1, 8, [nf], .fn, false⟩ = true := by decide +kernel
theorem ty482 : tyB Tryz.prog 482 ⟨1, 8, [nf], .fn, false⟩ = true := by decide +kernel
theorem ty483 : tyB Tryz.prog 483 ⟨1, 8, [nf], .fn, false⟩ = true := by decide +kernel
theorem ty484 : tyB Tryz.prog 484 ⟨1, 8, [nf], .fn, false⟩ = true := by decide +kernel
theorem ty485 : tyB Tryz.prog 485 ⟨1, 8, [nf], .fn, false⟩ = true := by decide +kernel
theorem ty486 : tyB Tryz.prog 486 ⟨1, 8, [nf], .fn, false⟩ = true := by decide +kernel
theorem ty487 : tyB Tryz.prog 487 ⟨1, 8, [nf], .fn, false⟩ = true := by decide +kernel
theorem ty488 : tyB Tryz.prog 488 ⟨1, 8, [nf], .fn, false⟩ = true := by decide +kernel
theorem ty489 : tyB Tryz.prog 489 ⟨1, 8, [nf], .fn, false⟩ = true := by decide +kernel
theorem ty490 : tyB Tryz.prog 490 ⟨1, 8, [nf], .fn, false⟩ = true := by decide +kernel
theorem ty491 : tyB Tryz.prog 491 ⟨1, 8, [nf], .fn, false⟩ = true := by decide +kernel
theorem ty492 : tyB Tryz.prog 492 ⟨1, 8, [nf], .fn, false⟩ = true := by decide +kernel
theorem ty493 : tyB Tryz.prog 493 ⟨1, 8, [nf], .fn, false⟩ = true := by decide +kernel
theorem ty494 : tyB Tryz.prog 494 ⟨1, 8, [nf], .fn, false⟩ = true := by decide +kernel
theorem ty495 : tyB Tryz.prog 495 ⟨1, 8, [nf], .fn, false⟩ = true := by decide +kernel
theorem ty496 : tyB Tryz.prog 496 ⟨1, 8, [.i .u64 0], (.int .u64), false⟩ = true := by decide +kernel
theorem ty497 : tyB Tryz.prog 497 ⟨1, 8, [nf], .fn, false⟩ = true := by decide +kernel
theorem ty498 : tyB Tryz.prog 498 ⟨1, 8, [nf], .fn, false⟩ = true := by decide +kernel
theorem ty499 : tyB Tryz.prog 499 ⟨1, 8, [nf], .fn, false⟩ = true := by decide +kernel
theorem ty500 : tyB Tryz.prog 500 ⟨1, 8, [nf], .fn, false⟩ = true := by decide +kernel
theorem ty501 : tyB Tryz.prog 501 ⟨1, 8, [nf], .fn, false⟩ = true := by decide +kernel
theorem ty503 : tyB Tryz.prog 503 ⟨1, 8, [nf], .fn, false⟩ = true := by decide +kernel
theorem ty505 : tyB Tryz.prog 505 ⟨1, 8, [nf], .fn, false⟩ = true := by decide +kernel
theorem ty506 : tyB Tryz.prog 506 ⟨1, 8, [np], .ptr, false⟩ = true := by decide +kernel
theorem ty507 : tyB Tryz.prog 507 ⟨4, 32, [np, np, np, np], (.arr 4 506), true⟩ = true := by decide +kernel
theorem ty508 : tyB Tryz.prog 508 ⟨1, 8, [np], .ptr, false⟩ = true := by decide +kernel
theorem ty509 : tyB Tryz.prog 509 ⟨6, 48, [.i .i64 0, np, np, np, np, np], (.st [(0, 2, 1), (1, 507, 4), (5, 508, 1)]), true⟩ = true := by decide +kernel
theorem ty510 : tyB Tryz.prog 510 ⟨6, 48, [.i .i64 0, np, np, np, np, np], (.st [(0, 2, 1), (1, 507, 4), (5, 508, 1)]), true⟩ = true := by decide +kernel
theorem ty512 : tyB Tryz.prog 512 ⟨1, 8, [nf], .fn, false⟩ = true := by decide +kernel
theorem ty513 : tyB Tryz.prog 513 ⟨1, 8, [nf], .fn, false⟩ = true := by decide +kernel
theorem ty514 : tyB Tryz.prog 514 ⟨1, 8, [nf], .fn, false⟩ = true := by decide +kernel
theorem ty515 : tyB Tryz.prog 515 ⟨1, 8, [nf], .fn, false⟩ = true := by decide +kernel
theorem ty516 : tyB Tryz.prog 516 ⟨1, 8, [nf], .fn, false⟩ = true := by decide +kernel
theorem ty517 : tyB Tryz.prog 517 ⟨1, 8, [nf], .fn, false⟩ = true := by decide +kernel
theorem ty518 : tyB Tryz.prog 518 ⟨1, 8, [nf], .fn, false⟩ = true := by decide +kernel
theorem ty519 : tyB Tryz.prog 519 ⟨1, 8, [nf], .fn, false⟩ = true := by decide +kernel
theorem ty520 : tyB Tryz.prog 520 ⟨1, 8, [nf], .fn, false⟩ = true := by decide +kernel
theorem ty521 : tyB Tryz.prog 521 ⟨1, 8, [nf], .fn, false⟩ = true := by decide +kernel
theorem ty522 : tyB Tryz.prog 522 ⟨1, 8, [np], .ptr, false⟩ = true := by decide +kernel
theorem ty523 : tyB Tryz.prog 523 ⟨1, 8, [nf], .fn, false⟩ = true := by decide +kernel
theorem ty524 : tyB Tryz.prog 524 ⟨1, 8, [nf], .fn, false⟩ = true := by decide +kernel
theorem ty525 : tyB Tryz.prog 525 ⟨1, 8, [nf], .fn, false⟩ = true := by decide +kernel
theorem ty526 : tyB Tryz.prog 526 ⟨1, 8, [np], .ptr, false⟩ = true := by decide +kernel
theorem ty528 : tyB Tryz.prog 528 ⟨1, 8, [nf], .fn, false⟩ = true := by decide +kernel
theorem ty529 : tyB Tryz.prog 529 ⟨1, 8, [nf], .fn, false⟩ = true := by decide +kernel
theorem ty530 : tyB Tryz.prog 530 ⟨4, 32, [.i .u64 0, .i .u64 0, .i .u64 0, .i .u64 0], (.arr 4 22), true⟩ = true := by decide +kernel
theorem ty531 : tyB Tryz.prog 531 ⟨1, 8, [nf], .fn, false⟩ = true := by decide +kernel
theorem ty532 : tyB Tryz.prog 532 ⟨1, 8, [nf], .fn, false⟩ = true := by decide +kernel
theorem ty533 : tyB Tryz.prog 533 ⟨1, 8, [nf], .fn, false⟩ = true := by decide +kernel
theorem ty534 : tyB Tryz.prog 534 ⟨1, 8, [nm], (.mp 22 4), false⟩ = true := by decide +kernel
theorem ty535 : tyB Tryz.prog 535 ⟨1, 8, [nf], .fn, false⟩ = true := by decide +kernel
theorem ty536 : tyB Tryz.prog 536 ⟨1, 8, [nf], .fn, false⟩ = true := by decide +kernel
theorem ty538 : tyB Tryz.prog 538 ⟨1, 8, [nf], .fn, false⟩ = true := by decide +kernel
theorem ty539 : tyB Tryz.prog 539 ⟨1, 8, [nf], .fn, false⟩ = true := by decide +kernel
theorem ty540 : tyB Tryz.prog 540 ⟨1, 8, [nm], (.mp 22 450), false⟩ = true := by decide +kernel
theorem ty541 : tyB Tryz.prog 541 ⟨1, 8, [nm], (.st [(0, 540, 1)]), true⟩ = true := by decide +kernel
theorem ty542 : tyB Tryz.prog 542 ⟨1, 8, [nm], (.st [(0, 540, 1)]), true⟩ = true := by decide +kernel
theorem ty543 : tyB Tryz.prog 543 ⟨1, 8, [nf], .fn, false⟩ = true := by decide +kernel
theorem ty544 : tyB Tryz.prog 544 ⟨1, 8, [nf], .fn, false⟩ = true := by decide +kernel
theorem ty545 : tyB Tryz.prog 545 ⟨3, 24, [np, .i .u64 0, .i .i64 0], (.st [(0, 42, 1), (1, 368, 2)]), true⟩ = true := by decide +kernel
theorem ty546 : tyB Tryz.prog 546 ⟨3, 24, [np, .i .u64 0, .i .i64 0], (.st [(0, 42, 1), (1, 368, 2)]), true⟩ = true := by decide +kernel
theorem ty547 : tyB Tryz.prog 547 ⟨5, 72, [np, .i .u64 0, .i .u64 0, ns, ns], (.st [(0, 42, 1), (1, 209, 4)]), true⟩ = true := by decide +kernel
theorem ty548 : tyB Tryz.prog 548 ⟨5, 72, [np, .i .u64 0, .i .u64 0, ns, ns], (.st [(0, 42, 1), (1, 209, 4)]), true⟩ = true := by decide +kernel
theorem ty549 : tyB Tryz.prog 549 ⟨1, 8, [nf], .fn, false⟩ = true := by decide +kernel
theorem ty550 : tyB Tryz.prog 550 ⟨1, 8, [nf], .fn, false⟩ = true := by decide +kernel
theorem ty552 : tyB Tryz.prog 552 ⟨1, 8, [nf], .fn, false⟩ = true := by decide +kernel
theorem ty553 : tyB Tryz.prog 553 ⟨1, 8, [nf], .fn, false⟩ = true := by decide +kernel
theorem ty554 : tyB Tryz.prog 554 ⟨1, 8, [nf], .fn, false⟩ = true := by decide +kernel
theorem ty555 : tyB Tryz.prog 555 ⟨1, 8, [nf], .fn, false⟩ = true := by decide +kernel
theorem ty557 : tyB Tryz.prog 557 ⟨1, 8, [nf], .fn, false⟩ = true := by decide +kernel
theorem ty559 : tyB Tryz.prog 559 ⟨1, 8, [nf], .fn, false⟩ = true := by decide +kernel
theorem ty561 : tyB Tryz.prog 561 ⟨1, 8, [nf], .fn, false⟩ = true := by decide +kernel
theorem ty562 : tyB Tryz.prog 562 ⟨1, 8, [nf], .fn, false⟩ = true := by decide +kernel
theorem ty563 : tyB Tryz.prog 563 ⟨1, 8, [nf], .fn, false⟩ = true := by decide +kernel
theorem ty564 : tyB Tryz.prog 564 ⟨1, 8, [nf], .fn, false⟩ = true := by decide +kernel
theorem ty565 : tyB Tryz.prog 565 ⟨1, 8, [nf], .fn, false⟩ = true := by decide +kernel
theorem ty567 : tyB Tryz.prog 567 ⟨1, 8, [nf], .fn, false⟩ = true := by decide +kernel
theorem ty569 : tyB Tryz.prog 569 ⟨1, 8, [nf], .fn, false⟩ = true := by decide +kernel
theorem ty570 : tyB Tryz.prog 570 ⟨1, 8, [nf], .fn, false⟩ = true := by decide +kernel
theorem ty571 : tyB Tryz.prog 571 ⟨1, 8, [nf], .fn, false⟩ = true := by decide +kernel
end Go.Proofs.YtjdebeibhnjbgaaGreat
