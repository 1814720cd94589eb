/- What is proved: what the run of a function comes to, on some of its ways. No condition. -/
import Derived.Test.YtaballahjgegdaaDoorLw0
set_option linter.unusedVariables false
set_option maxRecDepth 100000
namespace Go.Proofs.YtaballahjgegdaaDoor
open Go Go.RowKit Sx Wi
theorem fixedsWhole_n60 : exFun Tryd.prog ⟨G, GI, [((-2147483648), 2147483647)], fixedsWhole_f60⟩ GB ct_ftrunc 4000 4 [(.int .i32 (.var 0))] = .need (.cmp .ne (.app 9 (.cons (.var 0) .nil)) (.app 6 (.cons (.var 0) .nil))) := by kernel_rfl
theorem fixedsWhole_n61 : exFun Tryd.prog ⟨G, GI, [((-2147483648), 2147483647)], fixedsWhole_f61⟩ GB ct_ftrunc 4000 4 [(.int .i32 (.var 0))] = .need (.cmp .ne (.app 9 (.cons (.var 0) .nil)) (.app 7 (.cons (.var 0) .nil))) := by kernel_rfl
theorem fixedsWhole_n62 : exFun Tryd.prog ⟨G, GI, [((-2147483648), 2147483647)], fixedsWhole_f62⟩ GB ct_ftrunc 4000 4 [(.int .i32 (.var 0))] = .ok (.bool (.lit false)) := by kernel_rfl
theorem fixedsWhole_n63 : exFun Tryd.prog ⟨G, GI, [((-2147483648), 2147483647)], fixedsWhole_f63⟩ GB ct_ftrunc 4000 4 [(.int .i32 (.var 0))] = .need (.cmp .le (.lit 32768) (.wrap .i32 (.op .sub (.var 0) (.app 6 (.cons (.var 0) .nil))))) := by kernel_rfl
theorem fixedsWhole_n64 : exFun Tryd.prog ⟨G, GI, [((-2147483648), 2147483647)], fixedsWhole_f64⟩ GB ct_ftrunc 4000 4 [(.int .i32 (.var 0))] = .need (.cmp .lt (.lit 0) (.var 0)) := by kernel_rfl
theorem fixedsWhole_n65 : exFun Tryd.prog ⟨G, GI, [((-2147483648), 2147483647)], fixedsWhole_f65⟩ GB ct_ftrunc 4000 4 [(.int .i32 (.var 0))] = .ok (.bool (.lit false)) := by kernel_rfl
theorem fixedsWhole_n66 : exFun Tryd.prog ⟨G, GI, [((-2147483648), 2147483647)], fixedsWhole_f66⟩ GB ct_ftrunc 4000 4 [(.int .i32 (.var 0))] = .ok (.bool (.lit false)) := by kernel_rfl
theorem fixedsWhole_n67 : exFun Tryd.prog ⟨G, GI, [((-2147483648), 2147483647)], fixedsWhole_f67⟩ GB ct_ftrunc 4000 4 [(.int .i32 (.var 0))] = .need (.cmp .lt (.lit 0) (.var 0)) := by kernel_rfl
theorem fixedsWhole_n68 : exFun Tryd.prog ⟨G, GI, [((-2147483648), 2147483647)], fixedsWhole_f68⟩ GB ct_ftrunc 4000 4 [(.int .i32 (.var 0))] = .ok (.bool (.lit false)) := by kernel_rfl
theorem fixedsWhole_n69 : exFun Tryd.prog ⟨G, GI, [((-2147483648), 2147483647)], fixedsWhole_f69⟩ GB ct_ftrunc 4000 4 [(.int .i32 (.var 0))] = .ok (.bool (.lit false)) := by kernel_rfl
theorem fixedsWhole_n70 : exFun Tryd.prog ⟨G, GI, [((-2147483648), 2147483647)], fixedsWhole_f70⟩ GB ct_ftrunc 4000 4 [(.int .i32 (.var 0))] = .need (.cmp .le (.lit 32768) (.wrap .i32 (.op .sub (.var 0) (.app 6 (.cons (.var 0) .nil))))) := by kernel_rfl
theorem fixedsWhole_n71 : exFun Tryd.prog ⟨G, GI, [((-2147483648), 2147483647)], fixedsWhole_f71⟩ GB ct_ftrunc 4000 4 [(.int .i32 (.var 0))] = .need (.cmp .lt (.lit 0) (.var 0)) := by kernel_rfl
theorem fixedsWhole_n72 : exFun Tryd.prog ⟨G, GI, [((-2147483648), 2147483647)], fixedsWhole_f72⟩ GB ct_ftrunc 4000 4 [(.int .i32 (.var 0))] = .ok (.bool (.lit true)) := by kernel_rfl
theorem fixedsWhole_n73 : exFun Tryd.prog ⟨G, GI, [((-2147483648), 2147483647)], fixedsWhole_f73⟩ GB ct_ftrunc 4000 4 [(.int .i32 (.var 0))] = .ok (.bool (.lit true)) := by kernel_rfl
theorem fixedsWhole_n74 : exFun Tryd.prog ⟨G, GI, [((-2147483648), 2147483647)], fixedsWhole_f74⟩ GB ct_ftrunc 4000 4 [(.int .i32 (.var 0))] = .need (.cmp .lt (.lit 0) (.var 0)) := by kernel_rfl
theorem fixedsWhole_n75 : exFun Tryd.prog ⟨G, GI, [((-2147483648), 2147483647)], fixedsWhole_f75⟩ GB ct_ftrunc 4000 4 [(.int .i32 (.var 0))] = .ok (.bool (.lit true)) := by kernel_rfl
theorem fixedsWhole_n76 : exFun Tryd.prog ⟨G, GI, [((-2147483648), 2147483647)], fixedsWhole_f76⟩ GB ct_ftrunc 4000 4 [(.int .i32 (.var 0))] = .ok (.bool (.lit true)) := by kernel_rfl
theorem fixedsWhole_n77 : exFun Tryd.prog ⟨G, GI, [((-2147483648), 2147483647)], fixedsWhole_f77⟩ GB ct_ftrunc 4000 4 [(.int .i32 (.var 0))] = .need (.cmp .ne (.app 9 (.cons (.var 0) .nil)) (.app 6 (.cons (.var 0) .nil))) := by kernel_rfl
theorem fixedsWhole_n78 : exFun Tryd.prog ⟨G, GI, [((-2147483648), 2147483647)], fixedsWhole_f78⟩ GB ct_ftrunc 4000 4 [(.int .i32 (.var 0))] = .need (.cmp .ne (.app 9 (.cons (.var 0) .nil)) (.app 7 (.cons (.var 0) .nil))) := by kernel_rfl
theorem fixedsWhole_n79 : exFun Tryd.prog ⟨G, GI, [((-2147483648), 2147483647)], fixedsWhole_f79⟩ GB ct_ftrunc 4000 4 [(.int .i32 (.var 0))] = .ok (.bool (.lit false)) := by kernel_rfl
theorem fixedsWhole_n80 : exFun Tryd.prog ⟨G, GI, [((-2147483648), 2147483647)], fixedsWhole_f80⟩ GB ct_ftrunc 4000 4 [(.int .i32 (.var 0))] = .need (.cmp .le (.lit 32768) (.wrap .i32 (.op .sub (.var 0) (.app 6 (.cons (.var 0) .nil))))) := by kernel_rfl
theorem fixedsWhole_n81 : exFun Tryd.prog ⟨G, GI, [((-2147483648), 2147483647)], fixedsWhole_f81⟩ GB ct_ftrunc 4000 4 [(.int .i32 (.var 0))] = .need (.cmp .ne (.app 8 (.cons (.var 0) .nil)) (.app 7 (.cons (.var 0) .nil))) := by kernel_rfl
theorem fixedsWhole_n82 : exFun Tryd.prog ⟨G, GI, [((-2147483648), 2147483647)], fixedsWhole_f82⟩ GB ct_ftrunc 4000 4 [(.int .i32 (.var 0))] = .ok (.bool (.lit false)) := by kernel_rfl
theorem fixedsWhole_n83 : exFun Tryd.prog ⟨G, GI, [((-2147483648), 2147483647)], fixedsWhole_f83⟩ GB ct_ftrunc 4000 4 [(.int .i32 (.var 0))] = .need (.cmp .lt (.lit 0) (.var 0)) := by kernel_rfl
theorem fixedsWhole_n84 : exFun Tryd.prog ⟨G, GI, [((-2147483648), 2147483647)], fixedsWhole_f84⟩ GB ct_ftrunc 4000 4 [(.int .i32 (.var 0))] = .ok (.bool (.lit false)) := by kernel_rfl
theorem fixedsWhole_n85 : exFun Tryd.prog ⟨G, GI, [((-2147483648), 2147483647)], fixedsWhole_f85⟩ GB ct_ftrunc 4000 4 [(.int .i32 (.var 0))] = .ok (.bool (.lit false)) := by kernel_rfl
theorem fixedsWhole_n86 : exFun Tryd.prog ⟨G, GI, [((-2147483648), 2147483647)], fixedsWhole_f86⟩ GB ct_ftrunc 4000 4 [(.int .i32 (.var 0))] = .need (.cmp .ne (.app 8 (.cons (.var 0) .nil)) (.app 7 (.cons (.var 0) .nil))) := by kernel_rfl
theorem fixedsWhole_n87 : exFun Tryd.prog ⟨G, GI, [((-2147483648), 2147483647)], fixedsWhole_f87⟩ GB ct_ftrunc 4000 4 [(.int .i32 (.var 0))] = .ok (.bool (.lit false)) := by kernel_rfl
theorem fixedsWhole_n88 : exFun Tryd.prog ⟨G, GI, [((-2147483648), 2147483647)], fixedsWhole_f88⟩ GB ct_ftrunc 4000 4 [(.int .i32 (.var 0))] = .need (.cmp .lt (.lit 0) (.var 0)) := by kernel_rfl
theorem fixedsWhole_n89 : exFun Tryd.prog ⟨G, GI, [((-2147483648), 2147483647)], fixedsWhole_f89⟩ GB ct_ftrunc 4000 4 [(.int .i32 (.var 0))] = .ok (.bool (.lit false)) := by kernel_rfl
end Go.Proofs.YtaballahjgegdaaDoor
