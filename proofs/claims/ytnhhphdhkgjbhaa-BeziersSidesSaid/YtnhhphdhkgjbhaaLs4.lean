/- What is proved: what the run of a function comes to, on some of its ways. No condition. -/
import Derived.Test.YtnhhphdhkgjbhaaLs0
set_option linter.unusedVariables false
set_option maxRecDepth 100000
namespace Go.Proofs.Ytnhhphdhkgjbhaa
open Go Go.RowKit Sx Wi
theorem beziersSides_n415 : beziersSides_run Try.prog beziersSides_f415 = .ok (.bool (.lit true)) := by kernel_rfl
theorem beziersSides_n417 : beziersSides_run Try.prog beziersSides_f417 = .ok (.bool (.lit true)) := by kernel_rfl
theorem beziersSides_n419 : beziersSides_run Try.prog beziersSides_f419 = .ok (.bool (.lit true)) := by kernel_rfl
theorem beziersSides_n421 : beziersSides_run Try.prog beziersSides_f421 = .ok (.bool (.lit true)) := by kernel_rfl
theorem beziersSides_n423 : beziersSides_run Try.prog beziersSides_f423 = .ok (.bool (.lit true)) := by kernel_rfl
theorem beziersSides_n425 : beziersSides_run Try.prog beziersSides_f425 = .ok (.bool (.lit true)) := by kernel_rfl
theorem beziersSides_n427 : beziersSides_run Try.prog beziersSides_f427 = .ok (.bool (.lit true)) := by kernel_rfl
theorem beziersSides_n429 : beziersSides_run Try.prog beziersSides_f429 = .ok (.bool (.lit true)) := by kernel_rfl
theorem beziersSides_n431 : beziersSides_run Try.prog beziersSides_f431 = .ok (.bool (.lit true)) := by kernel_rfl
theorem beziersSides_n433 : beziersSides_run Try.prog beziersSides_f433 = .ok (.bool (.lit true)) := by kernel_rfl
theorem beziersSides_n435 : beziersSides_run Try.prog beziersSides_f435 = .ok (.bool (.lit true)) := by kernel_rfl
theorem beziersSides_n437 : beziersSides_run Try.prog beziersSides_f437 = .ok (.bool (.lit true)) := by kernel_rfl
theorem beziersSides_n439 : beziersSides_run Try.prog beziersSides_f439 = .ok (.bool (.lit true)) := by kernel_rfl
theorem beziersSides_n441 : beziersSides_run Try.prog beziersSides_f441 = .ok (.bool (.lit true)) := by kernel_rfl
theorem beziersSides_n443 : beziersSides_run Try.prog beziersSides_f443 = .ok (.bool (.lit true)) := by kernel_rfl
theorem beziersSides_n445 : beziersSides_run Try.prog beziersSides_f445 = .ok (.bool (.lit true)) := by kernel_rfl
theorem beziersSides_n447 : beziersSides_run Try.prog beziersSides_f447 = .ok (.bool (.lit true)) := by kernel_rfl
theorem beziersSides_n449 : beziersSides_run Try.prog beziersSides_f449 = .ok (.bool (.lit true)) := by kernel_rfl
theorem beziersSides_n451 : beziersSides_run Try.prog beziersSides_f451 = .ok (.bool (.lit true)) := by kernel_rfl
theorem beziersSides_n453 : beziersSides_run Try.prog beziersSides_f453 = .ok (.bool (.lit true)) := by kernel_rfl
theorem beziersSides_n455 : beziersSides_run Try.prog beziersSides_f455 = .ok (.bool (.lit true)) := by kernel_rfl
theorem beziersSides_n457 : beziersSides_run Try.prog beziersSides_f457 = .ok (.bool (.lit true)) := by kernel_rfl
theorem beziersSides_n459 : beziersSides_run Try.prog beziersSides_f459 = .ok (.bool (.lit true)) := by kernel_rfl
theorem beziersSides_n461 : beziersSides_run Try.prog beziersSides_f461 = .ok (.bool (.lit true)) := by kernel_rfl
theorem beziersSides_n463 : beziersSides_run Try.prog beziersSides_f463 = .ok (.bool (.lit true)) := by kernel_rfl
theorem beziersSides_n465 : beziersSides_run Try.prog beziersSides_f465 = .ok (.bool (.lit true)) := by kernel_rfl
theorem beziersSides_n467 : beziersSides_run Try.prog beziersSides_f467 = .ok (.bool (.lit true)) := by kernel_rfl
theorem beziersSides_n469 : beziersSides_run Try.prog beziersSides_f469 = .ok (.bool (.lit true)) := by kernel_rfl
theorem beziersSides_n471 : beziersSides_run Try.prog beziersSides_f471 = .ok (.bool (.lit true)) := by kernel_rfl
theorem beziersSides_n473 : beziersSides_run Try.prog beziersSides_f473 = .ok (.bool (.lit true)) := by kernel_rfl
theorem beziersSides_n475 : beziersSides_run Try.prog beziersSides_f475 = .ok (.bool (.lit true)) := by kernel_rfl
theorem beziersSides_n477 : beziersSides_run Try.prog beziersSides_f477 = .ok (.bool (.lit true)) := by kernel_rfl
theorem beziersSides_n479 : beziersSides_run Try.prog beziersSides_f479 = .ok (.bool (.lit true)) := by kernel_rfl
theorem beziersSides_n481 : beziersSides_run Try.prog beziersSides_f481 = .ok (.bool (.lit true)) := by kernel_rfl
theorem beziersSides_n483 : beziersSides_run Try.prog beziersSides_f483 = .ok (.bool (.lit true)) := by kernel_rfl
theorem beziersSides_n485 : beziersSides_run Try.prog beziersSides_f485 = .ok (.bool (.lit true)) := by kernel_rfl
theorem beziersSides_n487 : beziersSides_run Try.prog beziersSides_f487 = .ok (.bool (.lit true)) := by kernel_rfl
theorem beziersSides_n489 : beziersSides_run Try.prog beziersSides_f489 = .ok (.bool (.lit true)) := by kernel_rfl
theorem beziersSides_n491 : beziersSides_run Try.prog beziersSides_f491 = .ok (.bool (.lit true)) := by kernel_rfl
theorem beziersSides_n493 : beziersSides_run Try.prog beziersSides_f493 = .ok (.bool (.lit true)) := by kernel_rfl
theorem beziersSides_n495 : beziersSides_run Try.prog beziersSides_f495 = .ok (.bool (.lit true)) := by kernel_rfl
theorem beziersSides_n497 : beziersSides_run Try.prog beziersSides_f497 = .ok (.bool (.lit true)) := by kernel_rfl
theorem beziersSides_n499 : beziersSides_run Try.prog beziersSides_f499 = .ok (.bool (.lit true)) := by kernel_rfl
theorem beziersSides_n501 : beziersSides_run Try.prog beziersSides_f501 = .ok (.bool (.lit true)) := by kernel_rfl
theorem beziersSides_n503 : beziersSides_run Try.prog beziersSides_f503 = .ok (.bool (.lit true)) := by kernel_rfl
theorem beziersSides_n505 : beziersSides_run Try.prog beziersSides_f505 = .ok (.bool (.lit true)) := by kernel_rfl
theorem beziersSides_n507 : beziersSides_run Try.prog beziersSides_f507 = .ok (.bool (.lit true)) := by kernel_rfl
theorem beziersSides_n509 : beziersSides_run Try.prog beziersSides_f509 = .ok (.bool (.lit true)) := by kernel_rfl
theorem beziersSides_n511 : beziersSides_run Try.prog beziersSides_f511 = .ok (.bool (.lit true)) := by kernel_rfl
theorem beziersSides_n513 : beziersSides_run Try.prog beziersSides_f513 = .ok (.bool (.lit true)) := by kernel_rfl
theorem beziersSides_n515 : beziersSides_run Try.prog beziersSides_f515 = .ok (.bool (.lit true)) := by kernel_rfl
theorem beziersSides_n517 : beziersSides_run Try.prog beziersSides_f517 = .ok (.bool (.lit true)) := by kernel_rfl
theorem beziersSides_n519 : beziersSides_run Try.prog beziersSides_f519 = .ok (.bool (.lit true)) := by kernel_rfl
theorem beziersSides_n521 : beziersSides_run Try.prog beziersSides_f521 = .ok (.bool (.lit true)) := by kernel_rfl
theorem beziersSides_n523 : beziersSides_run Try.prog beziersSides_f523 = .ok (.bool (.lit true)) := by kernel_rfl
theorem beziersSides_n525 : beziersSides_run Try.prog beziersSides_f525 = .ok (.bool (.lit true)) := by kernel_rfl
theorem beziersSides_n527 : beziersSides_run Try.prog beziersSides_f527 = .ok (.bool (.lit true)) := by kernel_rfl
theorem beziersSides_n529 : beziersSides_run Try.prog beziersSides_f529 = .ok (.bool (.lit true)) := by kernel_rfl
theorem beziersSides_n531 : beziersSides_run Try.prog beziersSides_f531 = .ok (.bool (.lit true)) := by kernel_rfl
theorem beziersSides_n533 : beziersSides_run Try.prog beziersSides_f533 = .ok (.bool (.lit true)) := by kernel_rfl
theorem beziersSides_n535 : beziersSides_run Try.prog beziersSides_f535 = .ok (.bool (.lit true)) := by kernel_rfl
theorem beziersSides_n537 : beziersSides_run Try.prog beziersSides_f537 = .ok (.bool (.lit true)) := by kernel_rfl
theorem beziersSides_n539 : beziersSides_run Try.prog beziersSides_f539 = .ok (.bool (.lit true)) := by kernel_rfl
theorem beziersSides_n543 : beziersSides_run Try.prog beziersSides_f543 = .ok (.bool (.lit true)) := by kernel_rfl
theorem beziersSides_n544 : beziersSides_run Try.prog beziersSides_f544 = .ok (.bool (.lit false)) := by kernel_rfl
theorem beziersSides_n545 : beziersSides_run Try.prog beziersSides_f545 = .ok (.bool (.lit false)) := by kernel_rfl
theorem beziersSides_n546 : beziersSides_run Try.prog beziersSides_f546 = .ok (.bool (.lit false)) := by kernel_rfl
end Go.Proofs.Ytnhhphdhkgjbhaa
