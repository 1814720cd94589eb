/- What is proved: what the run of a function comes to, on some of its ways. No condition. -/
import Derived.Test.YtnhhphdhkgjbhaaLs0
set_option linter.unusedVariables false
set_option maxRecDepth 100000
namespace Go.Proofs.Ytnhhphdhkgjbhaa
open Go Go.RowKit Sx Wi
theorem beziersSides_n1 : beziersSides_run Try.prog beziersSides_f1 = .ok (.bool (.lit true)) := by kernel_rfl
theorem beziersSides_n3 : beziersSides_run Try.prog beziersSides_f3 = .ok (.bool (.lit true)) := by kernel_rfl
theorem beziersSides_n5 : beziersSides_run Try.prog beziersSides_f5 = .ok (.bool (.lit true)) := by kernel_rfl
theorem beziersSides_n7 : beziersSides_run Try.prog beziersSides_f7 = .ok (.bool (.lit true)) := by kernel_rfl
theorem beziersSides_n10 : beziersSides_run Try.prog beziersSides_f10 = .ok (.bool (.lit true)) := by kernel_rfl
theorem beziersSides_n12 : beziersSides_run Try.prog beziersSides_f12 = .ok (.bool (.lit true)) := by kernel_rfl
theorem beziersSides_n14 : beziersSides_run Try.prog beziersSides_f14 = .ok (.bool (.lit true)) := by kernel_rfl
theorem beziersSides_n16 : beziersSides_run Try.prog beziersSides_f16 = .ok (.bool (.lit true)) := by kernel_rfl
theorem beziersSides_n18 : beziersSides_run Try.prog beziersSides_f18 = .ok (.bool (.lit true)) := by kernel_rfl
theorem beziersSides_n20 : beziersSides_run Try.prog beziersSides_f20 = .ok (.bool (.lit true)) := by kernel_rfl
theorem beziersSides_n22 : beziersSides_run Try.prog beziersSides_f22 = .ok (.bool (.lit true)) := by kernel_rfl
theorem beziersSides_n24 : beziersSides_run Try.prog beziersSides_f24 = .ok (.bool (.lit true)) := by kernel_rfl
theorem beziersSides_n26 : beziersSides_run Try.prog beziersSides_f26 = .ok (.bool (.lit true)) := by kernel_rfl
theorem beziersSides_n28 : beziersSides_run Try.prog beziersSides_f28 = .ok (.bool (.lit true)) := by kernel_rfl
theorem beziersSides_n30 : beziersSides_run Try.prog beziersSides_f30 = .ok (.bool (.lit true)) := by kernel_rfl
theorem beziersSides_n32 : beziersSides_run Try.prog beziersSides_f32 = .ok (.bool (.lit true)) := by kernel_rfl
theorem beziersSides_n34 : beziersSides_run Try.prog beziersSides_f34 = .ok (.bool (.lit true)) := by kernel_rfl
theorem beziersSides_n36 : beziersSides_run Try.prog beziersSides_f36 = .ok (.bool (.lit true)) := by kernel_rfl
theorem beziersSides_n38 : beziersSides_run Try.prog beziersSides_f38 = .ok (.bool (.lit true)) := by kernel_rfl
theorem beziersSides_n40 : beziersSides_run Try.prog beziersSides_f40 = .ok (.bool (.lit true)) := by kernel_rfl
theorem beziersSides_n42 : beziersSides_run Try.prog beziersSides_f42 = .ok (.bool (.lit true)) := by kernel_rfl
theorem beziersSides_n44 : beziersSides_run Try.prog beziersSides_f44 = .ok (.bool (.lit true)) := by kernel_rfl
theorem beziersSides_n46 : beziersSides_run Try.prog beziersSides_f46 = .ok (.bool (.lit true)) := by kernel_rfl
theorem beziersSides_n48 : beziersSides_run Try.prog beziersSides_f48 = .ok (.bool (.lit true)) := by kernel_rfl
theorem beziersSides_n50 : beziersSides_run Try.prog beziersSides_f50 = .ok (.bool (.lit true)) := by kernel_rfl
theorem beziersSides_n52 : beziersSides_run Try.prog beziersSides_f52 = .ok (.bool (.lit true)) := by kernel_rfl
theorem beziersSides_n54 : beziersSides_run Try.prog beziersSides_f54 = .ok (.bool (.lit true)) := by kernel_rfl
theorem beziersSides_n56 : beziersSides_run Try.prog beziersSides_f56 = .ok (.bool (.lit true)) := by kernel_rfl
theorem beziersSides_n58 : beziersSides_run Try.prog beziersSides_f58 = .ok (.bool (.lit true)) := by kernel_rfl
theorem beziersSides_n60 : beziersSides_run Try.prog beziersSides_f60 = .ok (.bool (.lit true)) := by kernel_rfl
theorem beziersSides_n62 : beziersSides_run Try.prog beziersSides_f62 = .ok (.bool (.lit true)) := by kernel_rfl
theorem beziersSides_n64 : beziersSides_run Try.prog beziersSides_f64 = .ok (.bool (.lit true)) := by kernel_rfl
theorem beziersSides_n66 : beziersSides_run Try.prog beziersSides_f66 = .ok (.bool (.lit true)) := by kernel_rfl
theorem beziersSides_n68 : beziersSides_run Try.prog beziersSides_f68 = .ok (.bool (.lit true)) := by kernel_rfl
theorem beziersSides_n70 : beziersSides_run Try.prog beziersSides_f70 = .ok (.bool (.lit true)) := by kernel_rfl
theorem beziersSides_n72 : beziersSides_run Try.prog beziersSides_f72 = .ok (.bool (.lit true)) := by kernel_rfl
theorem beziersSides_n74 : beziersSides_run Try.prog beziersSides_f74 = .ok (.bool (.lit true)) := by kernel_rfl
theorem beziersSides_n76 : beziersSides_run Try.prog beziersSides_f76 = .ok (.bool (.lit true)) := by kernel_rfl
theorem beziersSides_n78 : beziersSides_run Try.prog beziersSides_f78 = .ok (.bool (.lit true)) := by kernel_rfl
theorem beziersSides_n80 : beziersSides_run Try.prog beziersSides_f80 = .ok (.bool (.lit true)) := by kernel_rfl
theorem beziersSides_n82 : beziersSides_run Try.prog beziersSides_f82 = .ok (.bool (.lit true)) := by kernel_rfl
theorem beziersSides_n84 : beziersSides_run Try.prog beziersSides_f84 = .ok (.bool (.lit true)) := by kernel_rfl
theorem beziersSides_n86 : beziersSides_run Try.prog beziersSides_f86 = .ok (.bool (.lit true)) := by kernel_rfl
theorem beziersSides_n88 : beziersSides_run Try.prog beziersSides_f88 = .ok (.bool (.lit true)) := by kernel_rfl
theorem beziersSides_n90 : beziersSides_run Try.prog beziersSides_f90 = .ok (.bool (.lit true)) := by kernel_rfl
theorem beziersSides_n92 : beziersSides_run Try.prog beziersSides_f92 = .ok (.bool (.lit true)) := by kernel_rfl
theorem beziersSides_n94 : beziersSides_run Try.prog beziersSides_f94 = .ok (.bool (.lit true)) := by kernel_rfl
theorem beziersSides_n96 : beziersSides_run Try.prog beziersSides_f96 = .ok (.bool (.lit true)) := by kernel_rfl
theorem beziersSides_n98 : beziersSides_run Try.prog beziersSides_f98 = .ok (.bool (.lit true)) := by kernel_rfl
theorem beziersSides_n100 : beziersSides_run Try.prog beziersSides_f100 = .ok (.bool (.lit true)) := by kernel_rfl
theorem beziersSides_n102 : beziersSides_run Try.prog beziersSides_f102 = .ok (.bool (.lit true)) := by kernel_rfl
theorem beziersSides_n104 : beziersSides_run Try.prog beziersSides_f104 = .ok (.bool (.lit true)) := by kernel_rfl
theorem beziersSides_n106 : beziersSides_run Try.prog beziersSides_f106 = .ok (.bool (.lit true)) := by kernel_rfl
theorem beziersSides_n108 : beziersSides_run Try.prog beziersSides_f108 = .ok (.bool (.lit true)) := by kernel_rfl
theorem beziersSides_n110 : beziersSides_run Try.prog beziersSides_f110 = .ok (.bool (.lit true)) := by kernel_rfl
theorem beziersSides_n112 : beziersSides_run Try.prog beziersSides_f112 = .ok (.bool (.lit true)) := by kernel_rfl
theorem beziersSides_n114 : beziersSides_run Try.prog beziersSides_f114 = .ok (.bool (.lit true)) := by kernel_rfl
theorem beziersSides_n116 : beziersSides_run Try.prog beziersSides_f116 = .ok (.bool (.lit true)) := by kernel_rfl
theorem beziersSides_n118 : beziersSides_run Try.prog beziersSides_f118 = .ok (.bool (.lit true)) := by kernel_rfl
theorem beziersSides_n120 : beziersSides_run Try.prog beziersSides_f120 = .ok (.bool (.lit true)) := by kernel_rfl
theorem beziersSides_n122 : beziersSides_run Try.prog beziersSides_f122 = .ok (.bool (.lit true)) := by kernel_rfl
theorem beziersSides_n124 : beziersSides_run Try.prog beziersSides_f124 = .ok (.bool (.lit true)) := by kernel_rfl
theorem beziersSides_n126 : beziersSides_run Try.prog beziersSides_f126 = .ok (.bool (.lit true)) := by kernel_rfl
theorem beziersSides_n128 : beziersSides_run Try.prog beziersSides_f128 = .ok (.bool (.lit true)) := by kernel_rfl
theorem beziersSides_n130 : beziersSides_run Try.prog beziersSides_f130 = .ok (.bool (.lit true)) := by kernel_rfl
theorem beziersSides_n132 : beziersSides_run Try.prog beziersSides_f132 = .ok (.bool (.lit true)) := by kernel_rfl
theorem beziersSides_n134 : beziersSides_run Try.prog beziersSides_f134 = .ok (.bool (.lit true)) := by kernel_rfl
theorem beziersSides_n136 : beziersSides_run Try.prog beziersSides_f136 = .ok (.bool (.lit true)) := by kernel_rfl
theorem beziersSides_n139 : beziersSides_run Try.prog beziersSides_f139 = .ok (.bool (.lit true)) := by kernel_rfl
end Go.Proofs.Ytnhhphdhkgjbhaa
