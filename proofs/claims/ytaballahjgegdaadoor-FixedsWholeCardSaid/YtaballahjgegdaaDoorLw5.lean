/- What is proved: what the run of a function comes to, on some of its ways. No condition. -/
import Derived.Test.YtaballahjgegdaaDoorLw0
set_option linter.unusedVariables false
set_option maxRecDepth 100000
namespace Go.Proofs.YtaballahjgegdaaDoor
open Go Go.RowKit Sx Wi
theorem fixedsWhole_n120 : exFun Tryd.prog ⟨G, GI, [((-2147483648), 2147483647)], fixedsWhole_f120⟩ GB ct_ftrunc 4000 4 [(.int .i32 (.var 0))] = .need (.cmp .lt (.lit 0) (.var 0)) := by kernel_rfl
theorem fixedsWhole_n121 : exFun Tryd.prog ⟨G, GI, [((-2147483648), 2147483647)], fixedsWhole_f121⟩ GB ct_ftrunc 4000 4 [(.int .i32 (.var 0))] = .ok (.bool (.lit true)) := by kernel_rfl
theorem fixedsWhole_n122 : exFun Tryd.prog ⟨G, GI, [((-2147483648), 2147483647)], fixedsWhole_f122⟩ GB ct_ftrunc 4000 4 [(.int .i32 (.var 0))] = .ok (.bool (.lit true)) := by kernel_rfl
theorem fixedsWhole_n123 : exFun Tryd.prog ⟨G, GI, [((-2147483648), 2147483647)], fixedsWhole_f123⟩ GB ct_ftrunc 4000 4 [(.int .i32 (.var 0))] = .need (.cmp .lt (.lit 0) (.var 0)) := by kernel_rfl
theorem fixedsWhole_n124 : exFun Tryd.prog ⟨G, GI, [((-2147483648), 2147483647)], fixedsWhole_f124⟩ GB ct_ftrunc 4000 4 [(.int .i32 (.var 0))] = .ok (.bool (.lit true)) := by kernel_rfl
theorem fixedsWhole_n125 : exFun Tryd.prog ⟨G, GI, [((-2147483648), 2147483647)], fixedsWhole_f125⟩ GB ct_ftrunc 4000 4 [(.int .i32 (.var 0))] = .ok (.bool (.lit true)) := by kernel_rfl
theorem fixedsWhole_n126 : exFun Tryd.prog ⟨G, GI, [((-2147483648), 2147483647)], fixedsWhole_f126⟩ GB ct_ftrunc 4000 4 [(.int .i32 (.var 0))] = .need (.cmp .ne (.app 9 (.cons (.var 0) .nil)) (.app 6 (.cons (.var 0) .nil))) := by kernel_rfl
theorem fixedsWhole_n127 : exFun Tryd.prog ⟨G, GI, [((-2147483648), 2147483647)], fixedsWhole_f127⟩ GB ct_ftrunc 4000 4 [(.int .i32 (.var 0))] = .need (.cmp .ne (.app 9 (.cons (.var 0) .nil)) (.app 7 (.cons (.var 0) .nil))) := by kernel_rfl
theorem fixedsWhole_n128 : exFun Tryd.prog ⟨G, GI, [((-2147483648), 2147483647)], fixedsWhole_f128⟩ GB ct_ftrunc 4000 4 [(.int .i32 (.var 0))] = .ok (.bool (.lit false)) := by kernel_rfl
theorem fixedsWhole_n129 : exFun Tryd.prog ⟨G, GI, [((-2147483648), 2147483647)], fixedsWhole_f129⟩ GB ct_ftrunc 4000 4 [(.int .i32 (.var 0))] = .need (.cmp .le (.lit 32768) (.wrap .i32 (.op .sub (.var 0) (.app 6 (.cons (.var 0) .nil))))) := by kernel_rfl
theorem fixedsWhole_n130 : exFun Tryd.prog ⟨G, GI, [((-2147483648), 2147483647)], fixedsWhole_f130⟩ GB ct_ftrunc 4000 4 [(.int .i32 (.var 0))] = .need (.cmp .ne (.app 8 (.cons (.var 0) .nil)) (.app 7 (.cons (.var 0) .nil))) := by kernel_rfl
theorem fixedsWhole_n131 : exFun Tryd.prog ⟨G, GI, [((-2147483648), 2147483647)], fixedsWhole_f131⟩ GB ct_ftrunc 4000 4 [(.int .i32 (.var 0))] = .ok (.bool (.lit false)) := by kernel_rfl
theorem fixedsWhole_n132 : exFun Tryd.prog ⟨G, GI, [((-2147483648), 2147483647)], fixedsWhole_f132⟩ GB ct_ftrunc 4000 4 [(.int .i32 (.var 0))] = .need (.cmp .lt (.lit 0) (.var 0)) := by kernel_rfl
theorem fixedsWhole_n133 : exFun Tryd.prog ⟨G, GI, [((-2147483648), 2147483647)], fixedsWhole_f133⟩ GB ct_ftrunc 4000 4 [(.int .i32 (.var 0))] = .ok (.bool (.lit false)) := by kernel_rfl
theorem fixedsWhole_n134 : exFun Tryd.prog ⟨G, GI, [((-2147483648), 2147483647)], fixedsWhole_f134⟩ GB ct_ftrunc 4000 4 [(.int .i32 (.var 0))] = .ok (.bool (.lit false)) := by kernel_rfl
theorem fixedsWhole_n135 : exFun Tryd.prog ⟨G, GI, [((-2147483648), 2147483647)], fixedsWhole_f135⟩ GB ct_ftrunc 4000 4 [(.int .i32 (.var 0))] = .need (.cmp .ne (.app 8 (.cons (.var 0) .nil)) (.app 7 (.cons (.var 0) .nil))) := by kernel_rfl
theorem fixedsWhole_n136 : exFun Tryd.prog ⟨G, GI, [((-2147483648), 2147483647)], fixedsWhole_f136⟩ GB ct_ftrunc 4000 4 [(.int .i32 (.var 0))] = .ok (.bool (.lit false)) := by kernel_rfl
theorem fixedsWhole_n137 : exFun Tryd.prog ⟨G, GI, [((-2147483648), 2147483647)], fixedsWhole_f137⟩ GB ct_ftrunc 4000 4 [(.int .i32 (.var 0))] = .need (.cmp .lt (.lit 0) (.var 0)) := by kernel_rfl
theorem fixedsWhole_n138 : exFun Tryd.prog ⟨G, GI, [((-2147483648), 2147483647)], fixedsWhole_f138⟩ GB ct_ftrunc 4000 4 [(.int .i32 (.var 0))] = .ok (.bool (.lit false)) := by kernel_rfl
theorem fixedsWhole_n139 : exFun Tryd.prog ⟨G, GI, [((-2147483648), 2147483647)], fixedsWhole_f139⟩ GB ct_ftrunc 4000 4 [(.int .i32 (.var 0))] = .ok (.bool (.lit false)) := by kernel_rfl
theorem fixedsWhole_n140 : exFun Tryd.prog ⟨G, GI, [((-2147483648), 2147483647)], fixedsWhole_f140⟩ GB ct_ftrunc 4000 4 [(.int .i32 (.var 0))] = .need (.cmp .le (.lit 32768) (.wrap .i32 (.op .sub (.var 0) (.app 6 (.cons (.var 0) .nil))))) := by kernel_rfl
theorem fixedsWhole_n141 : exFun Tryd.prog ⟨G, GI, [((-2147483648), 2147483647)], fixedsWhole_f141⟩ GB ct_ftrunc 4000 4 [(.int .i32 (.var 0))] = .need (.cmp .ne (.app 8 (.cons (.var 0) .nil)) (.app 7 (.cons (.var 0) .nil))) := by kernel_rfl
theorem fixedsWhole_n142 : exFun Tryd.prog ⟨G, GI, [((-2147483648), 2147483647)], fixedsWhole_f142⟩ GB ct_ftrunc 4000 4 [(.int .i32 (.var 0))] = .ok (.bool (.lit false)) := by kernel_rfl
theorem fixedsWhole_n143 : exFun Tryd.prog ⟨G, GI, [((-2147483648), 2147483647)], fixedsWhole_f143⟩ GB ct_ftrunc 4000 4 [(.int .i32 (.var 0))] = .need (.cmp .lt (.lit 0) (.var 0)) := by kernel_rfl
theorem fixedsWhole_n144 : exFun Tryd.prog ⟨G, GI, [((-2147483648), 2147483647)], fixedsWhole_f144⟩ GB ct_ftrunc 4000 4 [(.int .i32 (.var 0))] = .ok (.bool (.lit true)) := by kernel_rfl
theorem fixedsWhole_n145 : exFun Tryd.prog ⟨G, GI, [((-2147483648), 2147483647)], fixedsWhole_f145⟩ GB ct_ftrunc 4000 4 [(.int .i32 (.var 0))] = .ok (.bool (.lit true)) := by kernel_rfl
theorem fixedsWhole_n146 : exFun Tryd.prog ⟨G, GI, [((-2147483648), 2147483647)], fixedsWhole_f146⟩ GB ct_ftrunc 4000 4 [(.int .i32 (.var 0))] = .need (.cmp .ne (.app 8 (.cons (.var 0) .nil)) (.app 7 (.cons (.var 0) .nil))) := by kernel_rfl
theorem fixedsWhole_n147 : exFun Tryd.prog ⟨G, GI, [((-2147483648), 2147483647)], fixedsWhole_f147⟩ GB ct_ftrunc 4000 4 [(.int .i32 (.var 0))] = .ok (.bool (.lit false)) := by kernel_rfl
theorem fixedsWhole_n148 : exFun Tryd.prog ⟨G, GI, [((-2147483648), 2147483647)], fixedsWhole_f148⟩ GB ct_ftrunc 4000 4 [(.int .i32 (.var 0))] = .need (.cmp .lt (.lit 0) (.var 0)) := by kernel_rfl
theorem fixedsWhole_n149 : exFun Tryd.prog ⟨G, GI, [((-2147483648), 2147483647)], fixedsWhole_f149⟩ GB ct_ftrunc 4000 4 [(.int .i32 (.var 0))] = .ok (.bool (.lit true)) := by kernel_rfl
end Go.Proofs.YtaballahjgegdaaDoor
