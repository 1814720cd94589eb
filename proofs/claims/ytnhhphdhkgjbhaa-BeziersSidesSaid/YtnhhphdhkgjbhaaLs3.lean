/- What is proved: what the run of a function comes to, on some of its ways. No condition. -/
import Derived.Test.YtnhhphdhkgjbhaaLs0
set_option linter.unusedVariables false
set_option maxRecDepth 100000
namespace Go.Proofs.Ytnhhphdhkgjbhaa
open Go Go.RowKit Sx Wi
theorem beziersSides_n278 : beziersSides_run Try.prog beziersSides_f278 = .ok (.bool (.lit true)) := by kernel_rfl
theorem beziersSides_n280 : beziersSides_run Try.prog beziersSides_f280 = .ok (.bool (.lit true)) := by kernel_rfl
theorem beziersSides_n282 : beziersSides_run Try.prog beziersSides_f282 = .ok (.bool (.lit true)) := by kernel_rfl
theorem beziersSides_n284 : beziersSides_run Try.prog beziersSides_f284 = .ok (.bool (.lit true)) := by kernel_rfl
theorem beziersSides_n286 : beziersSides_run Try.prog beziersSides_f286 = .ok (.bool (.lit true)) := by kernel_rfl
theorem beziersSides_n288 : beziersSides_run Try.prog beziersSides_f288 = .ok (.bool (.lit true)) := by kernel_rfl
theorem beziersSides_n290 : beziersSides_run Try.prog beziersSides_f290 = .ok (.bool (.lit true)) := by kernel_rfl
theorem beziersSides_n292 : beziersSides_run Try.prog beziersSides_f292 = .ok (.bool (.lit true)) := by kernel_rfl
theorem beziersSides_n294 : beziersSides_run Try.prog beziersSides_f294 = .ok (.bool (.lit true)) := by kernel_rfl
theorem beziersSides_n296 : beziersSides_run Try.prog beziersSides_f296 = .ok (.bool (.lit true)) := by kernel_rfl
theorem beziersSides_n298 : beziersSides_run Try.prog beziersSides_f298 = .ok (.bool (.lit true)) := by kernel_rfl
theorem beziersSides_n300 : beziersSides_run Try.prog beziersSides_f300 = .ok (.bool (.lit true)) := by kernel_rfl
theorem beziersSides_n302 : beziersSides_run Try.prog beziersSides_f302 = .ok (.bool (.lit true)) := by kernel_rfl
theorem beziersSides_n304 : beziersSides_run Try.prog beziersSides_f304 = .ok (.bool (.lit true)) := by kernel_rfl
theorem beziersSides_n306 : beziersSides_run Try.prog beziersSides_f306 = .ok (.bool (.lit true)) := by kernel_rfl
theorem beziersSides_n308 : beziersSides_run Try.prog beziersSides_f308 = .ok (.bool (.lit true)) := by kernel_rfl
theorem beziersSides_n310 : beziersSides_run Try.prog beziersSides_f310 = .ok (.bool (.lit true)) := by kernel_rfl
theorem beziersSides_n312 : beziersSides_run Try.prog beziersSides_f312 = .ok (.bool (.lit true)) := by kernel_rfl
theorem beziersSides_n314 : beziersSides_run Try.prog beziersSides_f314 = .ok (.bool (.lit true)) := by kernel_rfl
theorem beziersSides_n316 : beziersSides_run Try.prog beziersSides_f316 = .ok (.bool (.lit true)) := by kernel_rfl
theorem beziersSides_n318 : beziersSides_run Try.prog beziersSides_f318 = .ok (.bool (.lit true)) := by kernel_rfl
theorem beziersSides_n320 : beziersSides_run Try.prog beziersSides_f320 = .ok (.bool (.lit true)) := by kernel_rfl
theorem beziersSides_n322 : beziersSides_run Try.prog beziersSides_f322 = .ok (.bool (.lit true)) := by kernel_rfl
theorem beziersSides_n324 : beziersSides_run Try.prog beziersSides_f324 = .ok (.bool (.lit true)) := by kernel_rfl
theorem beziersSides_n326 : beziersSides_run Try.prog beziersSides_f326 = .ok (.bool (.lit true)) := by kernel_rfl
theorem beziersSides_n328 : beziersSides_run Try.prog beziersSides_f328 = .ok (.bool (.lit true)) := by kernel_rfl
theorem beziersSides_n330 : beziersSides_run Try.prog beziersSides_f330 = .ok (.bool (.lit true)) := by kernel_rfl
theorem beziersSides_n332 : beziersSides_run Try.prog beziersSides_f332 = .ok (.bool (.lit true)) := by kernel_rfl
theorem beziersSides_n334 : beziersSides_run Try.prog beziersSides_f334 = .ok (.bool (.lit true)) := by kernel_rfl
theorem beziersSides_n336 : beziersSides_run Try.prog beziersSides_f336 = .ok (.bool (.lit true)) := by kernel_rfl
theorem beziersSides_n338 : beziersSides_run Try.prog beziersSides_f338 = .ok (.bool (.lit true)) := by kernel_rfl
theorem beziersSides_n340 : beziersSides_run Try.prog beziersSides_f340 = .ok (.bool (.lit true)) := by kernel_rfl
theorem beziersSides_n342 : beziersSides_run Try.prog beziersSides_f342 = .ok (.bool (.lit true)) := by kernel_rfl
theorem beziersSides_n344 : beziersSides_run Try.prog beziersSides_f344 = .ok (.bool (.lit true)) := by kernel_rfl
theorem beziersSides_n346 : beziersSides_run Try.prog beziersSides_f346 = .ok (.bool (.lit true)) := by kernel_rfl
theorem beziersSides_n348 : beziersSides_run Try.prog beziersSides_f348 = .ok (.bool (.lit true)) := by kernel_rfl
theorem beziersSides_n350 : beziersSides_run Try.prog beziersSides_f350 = .ok (.bool (.lit true)) := by kernel_rfl
theorem beziersSides_n352 : beziersSides_run Try.prog beziersSides_f352 = .ok (.bool (.lit true)) := by kernel_rfl
theorem beziersSides_n354 : beziersSides_run Try.prog beziersSides_f354 = .ok (.bool (.lit true)) := by kernel_rfl
theorem beziersSides_n356 : beziersSides_run Try.prog beziersSides_f356 = .ok (.bool (.lit true)) := by kernel_rfl
theorem beziersSides_n358 : beziersSides_run Try.prog beziersSides_f358 = .ok (.bool (.lit true)) := by kernel_rfl
theorem beziersSides_n360 : beziersSides_run Try.prog beziersSides_f360 = .ok (.bool (.lit true)) := by kernel_rfl
theorem beziersSides_n362 : beziersSides_run Try.prog beziersSides_f362 = .ok (.bool (.lit true)) := by kernel_rfl
theorem beziersSides_n364 : beziersSides_run Try.prog beziersSides_f364 = .ok (.bool (.lit true)) := by kernel_rfl
theorem beziersSides_n366 : beziersSides_run Try.prog beziersSides_f366 = .ok (.bool (.lit true)) := by kernel_rfl
theorem beziersSides_n368 : beziersSides_run Try.prog beziersSides_f368 = .ok (.bool (.lit true)) := by kernel_rfl
theorem beziersSides_n370 : beziersSides_run Try.prog beziersSides_f370 = .ok (.bool (.lit true)) := by kernel_rfl
theorem beziersSides_n372 : beziersSides_run Try.prog beziersSides_f372 = .ok (.bool (.lit true)) := by kernel_rfl
theorem beziersSides_n374 : beziersSides_run Try.prog beziersSides_f374 = .ok (.bool (.lit true)) := by kernel_rfl
theorem beziersSides_n376 : beziersSides_run Try.prog beziersSides_f376 = .ok (.bool (.lit true)) := by kernel_rfl
theorem beziersSides_n378 : beziersSides_run Try.prog beziersSides_f378 = .ok (.bool (.lit true)) := by kernel_rfl
theorem beziersSides_n380 : beziersSides_run Try.prog beziersSides_f380 = .ok (.bool (.lit true)) := by kernel_rfl
theorem beziersSides_n382 : beziersSides_run Try.prog beziersSides_f382 = .ok (.bool (.lit true)) := by kernel_rfl
theorem beziersSides_n384 : beziersSides_run Try.prog beziersSides_f384 = .ok (.bool (.lit true)) := by kernel_rfl
theorem beziersSides_n386 : beziersSides_run Try.prog beziersSides_f386 = .ok (.bool (.lit true)) := by kernel_rfl
theorem beziersSides_n388 : beziersSides_run Try.prog beziersSides_f388 = .ok (.bool (.lit true)) := by kernel_rfl
theorem beziersSides_n390 : beziersSides_run Try.prog beziersSides_f390 = .ok (.bool (.lit true)) := by kernel_rfl
theorem beziersSides_n392 : beziersSides_run Try.prog beziersSides_f392 = .ok (.bool (.lit true)) := by kernel_rfl
theorem beziersSides_n394 : beziersSides_run Try.prog beziersSides_f394 = .ok (.bool (.lit true)) := by kernel_rfl
theorem beziersSides_n396 : beziersSides_run Try.prog beziersSides_f396 = .ok (.bool (.lit true)) := by kernel_rfl
theorem beziersSides_n398 : beziersSides_run Try.prog beziersSides_f398 = .ok (.bool (.lit true)) := by kernel_rfl
theorem beziersSides_n400 : beziersSides_run Try.prog beziersSides_f400 = .ok (.bool (.lit true)) := by kernel_rfl
theorem beziersSides_n402 : beziersSides_run Try.prog beziersSides_f402 = .ok (.bool (.lit true)) := by kernel_rfl
theorem beziersSides_n404 : beziersSides_run Try.prog beziersSides_f404 = .ok (.bool (.lit true)) := by kernel_rfl
theorem beziersSides_n408 : beziersSides_run Try.prog beziersSides_f408 = .ok (.bool (.lit true)) := by kernel_rfl
theorem beziersSides_n409 : beziersSides_run Try.prog beziersSides_f409 = .ok (.bool (.lit false)) := by kernel_rfl
theorem beziersSides_n410 : beziersSides_run Try.prog beziersSides_f410 = .ok (.bool (.lit false)) := by kernel_rfl
theorem beziersSides_n411 : beziersSides_run Try.prog beziersSides_f411 = .ok (.bool (.lit false)) := by kernel_rfl
theorem beziersSides_n413 : beziersSides_run Try.prog beziersSides_f413 = .ok (.bool (.lit true)) := by kernel_rfl
end Go.Proofs.Ytnhhphdhkgjbhaa
