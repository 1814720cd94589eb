/- What is proved: what the run of a function comes to, on some of its ways. No condition. -/
import Derived.Test.YtaballahjgegdaaDoorLw0
set_option linter.unusedVariables false
set_option maxRecDepth 100000
namespace Go.Proofs.YtaballahjgegdaaDoor
open Go Go.RowKit Sx Wi
theorem fixedsWhole_n30 : exFun Tryd.prog ⟨G, GI, [((-2147483648), 2147483647)], fixedsWhole_f30⟩ GB ct_ftrunc 4000 4 [(.int .i32 (.var 0))] = .ok (.bool (.lit false)) := by kernel_rfl
theorem fixedsWhole_n31 : exFun Tryd.prog ⟨G, GI, [((-2147483648), 2147483647)], fixedsWhole_f31⟩ GB ct_ftrunc 4000 4 [(.int .i32 (.var 0))] = .ok (.bool (.lit false)) := by kernel_rfl
theorem fixedsWhole_n32 : exFun Tryd.prog ⟨G, GI, [((-2147483648), 2147483647)], fixedsWhole_f32⟩ GB ct_ftrunc 4000 4 [(.int .i32 (.var 0))] = .need (.cmp .ne (.app 9 (.cons (.var 0) .nil)) (.app 6 (.cons (.var 0) .nil))) := by kernel_rfl
theorem fixedsWhole_n33 : exFun Tryd.prog ⟨G, GI, [((-2147483648), 2147483647)], fixedsWhole_f33⟩ GB ct_ftrunc 4000 4 [(.int .i32 (.var 0))] = .need (.cmp .ne (.app 9 (.cons (.var 0) .nil)) (.app 7 (.cons (.var 0) .nil))) := by kernel_rfl
theorem fixedsWhole_n34 : exFun Tryd.prog ⟨G, GI, [((-2147483648), 2147483647)], fixedsWhole_f34⟩ GB ct_ftrunc 4000 4 [(.int .i32 (.var 0))] = .ok (.bool (.lit false)) := by kernel_rfl
theorem fixedsWhole_n35 : exFun Tryd.prog ⟨G, GI, [((-2147483648), 2147483647)], fixedsWhole_f35⟩ GB ct_ftrunc 4000 4 [(.int .i32 (.var 0))] = .need (.cmp .le (.lit 32768) (.wrap .i32 (.op .sub (.var 0) (.app 6 (.cons (.var 0) .nil))))) := by kernel_rfl
theorem fixedsWhole_n36 : exFun Tryd.prog ⟨G, GI, [((-2147483648), 2147483647)], fixedsWhole_f36⟩ GB ct_ftrunc 4000 4 [(.int .i32 (.var 0))] = .need (.cmp .ne (.app 8 (.cons (.var 0) .nil)) (.app 7 (.cons (.var 0) .nil))) := by kernel_rfl
theorem fixedsWhole_n37 : exFun Tryd.prog ⟨G, GI, [((-2147483648), 2147483647)], fixedsWhole_f37⟩ GB ct_ftrunc 4000 4 [(.int .i32 (.var 0))] = .ok (.bool (.lit false)) := by kernel_rfl
theorem fixedsWhole_n38 : exFun Tryd.prog ⟨G, GI, [((-2147483648), 2147483647)], fixedsWhole_f38⟩ GB ct_ftrunc 4000 4 [(.int .i32 (.var 0))] = .need (.cmp .lt (.lit 0) (.var 0)) := by kernel_rfl
theorem fixedsWhole_n39 : exFun Tryd.prog ⟨G, GI, [((-2147483648), 2147483647)], fixedsWhole_f39⟩ GB ct_ftrunc 4000 4 [(.int .i32 (.var 0))] = .ok (.bool (.lit false)) := by kernel_rfl
theorem fixedsWhole_n40 : exFun Tryd.prog ⟨G, GI, [((-2147483648), 2147483647)], fixedsWhole_f40⟩ GB ct_ftrunc 4000 4 [(.int .i32 (.var 0))] = .ok (.bool (.lit true)) := by kernel_rfl
theorem fixedsWhole_n41 : exFun Tryd.prog ⟨G, GI, [((-2147483648), 2147483647)], fixedsWhole_f41⟩ GB ct_ftrunc 4000 4 [(.int .i32 (.var 0))] = .need (.cmp .eq (.app 8 (.cons (.var 0) .nil)) (.app 7 (.cons (.var 0) .nil))) := by kernel_rfl
theorem fixedsWhole_n42 : exFun Tryd.prog ⟨G, GI, [((-2147483648), 2147483647)], fixedsWhole_f42⟩ GB ct_ftrunc 4000 4 [(.int .i32 (.var 0))] = .ok (.bool (.lit false)) := by kernel_rfl
theorem fixedsWhole_n43 : exFun Tryd.prog ⟨G, GI, [((-2147483648), 2147483647)], fixedsWhole_f43⟩ GB ct_ftrunc 4000 4 [(.int .i32 (.var 0))] = .need (.cmp .lt (.lit 0) (.var 0)) := by kernel_rfl
theorem fixedsWhole_n44 : exFun Tryd.prog ⟨G, GI, [((-2147483648), 2147483647)], fixedsWhole_f44⟩ GB ct_ftrunc 4000 4 [(.int .i32 (.var 0))] = .ok (.bool (.lit false)) := by kernel_rfl
theorem fixedsWhole_n45 : exFun Tryd.prog ⟨G, GI, [((-2147483648), 2147483647)], fixedsWhole_f45⟩ GB ct_ftrunc 4000 4 [(.int .i32 (.var 0))] = .ok (.bool (.lit true)) := by kernel_rfl
theorem fixedsWhole_n46 : exFun Tryd.prog ⟨G, GI, [((-2147483648), 2147483647)], fixedsWhole_f46⟩ GB ct_ftrunc 4000 4 [(.int .i32 (.var 0))] = .need (.cmp .le (.lit 32768) (.wrap .i32 (.op .sub (.var 0) (.app 6 (.cons (.var 0) .nil))))) := by kernel_rfl
theorem fixedsWhole_n47 : exFun Tryd.prog ⟨G, GI, [((-2147483648), 2147483647)], fixedsWhole_f47⟩ GB ct_ftrunc 4000 4 [(.int .i32 (.var 0))] = .need (.cmp .ne (.app 8 (.cons (.var 0) .nil)) (.app 7 (.cons (.var 0) .nil))) := by kernel_rfl
theorem fixedsWhole_n48 : exFun Tryd.prog ⟨G, GI, [((-2147483648), 2147483647)], fixedsWhole_f48⟩ GB ct_ftrunc 4000 4 [(.int .i32 (.var 0))] = .ok (.bool (.lit false)) := by kernel_rfl
theorem fixedsWhole_n49 : exFun Tryd.prog ⟨G, GI, [((-2147483648), 2147483647)], fixedsWhole_f49⟩ GB ct_ftrunc 4000 4 [(.int .i32 (.var 0))] = .need (.cmp .lt (.lit 0) (.var 0)) := by kernel_rfl
theorem fixedsWhole_n50 : exFun Tryd.prog ⟨G, GI, [((-2147483648), 2147483647)], fixedsWhole_f50⟩ GB ct_ftrunc 4000 4 [(.int .i32 (.var 0))] = .ok (.bool (.lit true)) := by kernel_rfl
theorem fixedsWhole_n51 : exFun Tryd.prog ⟨G, GI, [((-2147483648), 2147483647)], fixedsWhole_f51⟩ GB ct_ftrunc 4000 4 [(.int .i32 (.var 0))] = .ok (.bool (.lit false)) := by kernel_rfl
theorem fixedsWhole_n52 : exFun Tryd.prog ⟨G, GI, [((-2147483648), 2147483647)], fixedsWhole_f52⟩ GB ct_ftrunc 4000 4 [(.int .i32 (.var 0))] = .need (.cmp .eq (.app 8 (.cons (.var 0) .nil)) (.app 7 (.cons (.var 0) .nil))) := by kernel_rfl
theorem fixedsWhole_n53 : exFun Tryd.prog ⟨G, GI, [((-2147483648), 2147483647)], fixedsWhole_f53⟩ GB ct_ftrunc 4000 4 [(.int .i32 (.var 0))] = .ok (.bool (.lit false)) := by kernel_rfl
theorem fixedsWhole_n54 : exFun Tryd.prog ⟨G, GI, [((-2147483648), 2147483647)], fixedsWhole_f54⟩ GB ct_ftrunc 4000 4 [(.int .i32 (.var 0))] = .need (.cmp .lt (.lit 0) (.var 0)) := by kernel_rfl
theorem fixedsWhole_n55 : exFun Tryd.prog ⟨G, GI, [((-2147483648), 2147483647)], fixedsWhole_f55⟩ GB ct_ftrunc 4000 4 [(.int .i32 (.var 0))] = .ok (.bool (.lit true)) := by kernel_rfl
theorem fixedsWhole_n56 : exFun Tryd.prog ⟨G, GI, [((-2147483648), 2147483647)], fixedsWhole_f56⟩ GB ct_ftrunc 4000 4 [(.int .i32 (.var 0))] = .ok (.bool (.lit false)) := by kernel_rfl
theorem fixedsWhole_n57 : exFun Tryd.prog ⟨G, GI, [((-2147483648), 2147483647)], fixedsWhole_f57⟩ GB ct_ftrunc 4000 4 [(.int .i32 (.var 0))] = .need (.cmp .ne (.app 8 (.cons (.var 0) .nil)) (.app 6 (.cons (.var 0) .nil))) := by kernel_rfl
theorem fixedsWhole_n58 : exFun Tryd.prog ⟨G, GI, [((-2147483648), 2147483647)], fixedsWhole_f58⟩ GB ct_ftrunc 4000 4 [(.int .i32 (.var 0))] = .need (.cmp .ne (.app 8 (.cons (.var 0) .nil)) (.app 7 (.cons (.var 0) .nil))) := by kernel_rfl
theorem fixedsWhole_n59 : exFun Tryd.prog ⟨G, GI, [((-2147483648), 2147483647)], fixedsWhole_f59⟩ GB ct_ftrunc 4000 4 [(.int .i32 (.var 0))] = .ok (.bool (.lit false)) := by kernel_rfl
end Go.Proofs.YtaballahjgegdaaDoor
