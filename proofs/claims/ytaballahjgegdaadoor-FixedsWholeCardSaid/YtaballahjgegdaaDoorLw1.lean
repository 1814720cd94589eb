/- What is proved: what the run of a function comes to, on some of its ways. No condition. -/
import Derived.Test.YtaballahjgegdaaDoorLw0
set_option linter.unusedVariables false
set_option maxRecDepth 100000
namespace Go.Proofs.YtaballahjgegdaaDoor
open Go Go.RowKit Sx Wi
theorem fixedsWhole_n0 : exFun Tryd.prog ⟨G, GI, [((-2147483648), 2147483647)], fixedsWhole_f0⟩ GB ct_ftrunc 4000 4 [(.int .i32 (.var 0))] = .need (.cmp .lt (.var 0) (.lit (-2147418112))) := by kernel_rfl
theorem fixedsWhole_n1 : exFun Tryd.prog ⟨G, GI, [((-2147483648), 2147483647)], fixedsWhole_f1⟩ GB ct_ftrunc 4000 4 [(.int .i32 (.var 0))] = .ok (.bool (.lit true)) := by kernel_rfl
theorem fixedsWhole_n2 : exFun Tryd.prog ⟨G, GI, [((-2147483648), 2147483647)], fixedsWhole_f2⟩ GB ct_ftrunc 4000 4 [(.int .i32 (.var 0))] = .need (.cmp .lt (.lit 2147418111) (.var 0)) := by kernel_rfl
theorem fixedsWhole_n3 : exFun Tryd.prog ⟨G, GI, [((-2147483648), 2147483647)], fixedsWhole_f3⟩ GB ct_ftrunc 4000 4 [(.int .i32 (.var 0))] = .ok (.bool (.lit true)) := by kernel_rfl
theorem fixedsWhole_n4 : exFun Tryd.prog ⟨G, GI, [((-2147483648), 2147483647)], fixedsWhole_f4⟩ GB ct_ftrunc 4000 4 [(.int .i32 (.var 0))] = .need (.cmp .lt (.var 0) (.app 6 (.cons (.var 0) .nil))) := by kernel_rfl
theorem fixedsWhole_n5 : exFun Tryd.prog ⟨G, GI, [((-2147483648), 2147483647)], fixedsWhole_f5⟩ GB ct_ftrunc 4000 4 [(.int .i32 (.var 0))] = .ok (.bool (.lit false)) := by kernel_rfl
theorem fixedsWhole_n6 : exFun Tryd.prog ⟨G, GI, [((-2147483648), 2147483647)], fixedsWhole_f6⟩ GB ct_ftrunc 4000 4 [(.int .i32 (.var 0))] = .need (.cmp .lt (.app 7 (.cons (.var 0) .nil)) (.var 0)) := by kernel_rfl
theorem fixedsWhole_n7 : exFun Tryd.prog ⟨G, GI, [((-2147483648), 2147483647)], fixedsWhole_f7⟩ GB ct_ftrunc 4000 4 [(.int .i32 (.var 0))] = .ok (.bool (.lit false)) := by kernel_rfl
theorem fixedsWhole_n8 : exFun Tryd.prog ⟨G, GI, [((-2147483648), 2147483647)], fixedsWhole_f8⟩ GB ct_ftrunc 4000 4 [(.int .i32 (.var 0))] = .need (.cmp .ne (.op .rem (.app 6 (.cons (.var 0) .nil)) (.lit 65536)) (.lit 0)) := by kernel_rfl
theorem fixedsWhole_n9 : exFun Tryd.prog ⟨G, GI, [((-2147483648), 2147483647)], fixedsWhole_f9⟩ GB ct_ftrunc 4000 4 [(.int .i32 (.var 0))] = .ok (.bool (.lit false)) := by kernel_rfl
theorem fixedsWhole_n10 : exFun Tryd.prog ⟨G, GI, [((-2147483648), 2147483647)], fixedsWhole_f10⟩ GB ct_ftrunc 4000 4 [(.int .i32 (.var 0))] = .need (.cmp .ne (.op .rem (.app 7 (.cons (.var 0) .nil)) (.lit 65536)) (.lit 0)) := by kernel_rfl
theorem fixedsWhole_n11 : exFun Tryd.prog ⟨G, GI, [((-2147483648), 2147483647)], fixedsWhole_f11⟩ GB ct_ftrunc 4000 4 [(.int .i32 (.var 0))] = .ok (.bool (.lit false)) := by kernel_rfl
theorem fixedsWhole_n12 : exFun Tryd.prog ⟨G, GI, [((-2147483648), 2147483647)], fixedsWhole_f12⟩ GB ct_ftrunc 4000 4 [(.int .i32 (.var 0))] = .need (.cmp .eq (.wrap .i32 (.op .sub (.app 7 (.cons (.var 0) .nil)) (.app 6 (.cons (.var 0) .nil)))) (.lit 65536)) := by kernel_rfl
theorem fixedsWhole_n13 : exFun Tryd.prog ⟨G, GI, [((-2147483648), 2147483647)], fixedsWhole_f13⟩ GB ct_ftrunc 4000 4 [(.int .i32 (.var 0))] = .need (.cmp .eq (.app 6 (.cons (.var 0) .nil)) (.var 0)) := by kernel_rfl
theorem fixedsWhole_n14 : exFun Tryd.prog ⟨G, GI, [((-2147483648), 2147483647)], fixedsWhole_f14⟩ GB ct_ftrunc 4000 4 [(.int .i32 (.var 0))] = .ok (.bool (.lit false)) := by kernel_rfl
theorem fixedsWhole_n15 : exFun Tryd.prog ⟨G, GI, [((-2147483648), 2147483647)], fixedsWhole_f15⟩ GB ct_ftrunc 4000 4 [(.int .i32 (.var 0))] = .need (.cmp .ne (.app 6 (.cons (.var 0) .nil)) (.app 7 (.cons (.var 0) .nil))) := by kernel_rfl
theorem fixedsWhole_n16 : exFun Tryd.prog ⟨G, GI, [((-2147483648), 2147483647)], fixedsWhole_f16⟩ GB ct_ftrunc 4000 4 [(.int .i32 (.var 0))] = .need (.cmp .ne (.app 8 (.cons (.var 0) .nil)) (.app 6 (.cons (.var 0) .nil))) := by kernel_rfl
theorem fixedsWhole_n17 : exFun Tryd.prog ⟨G, GI, [((-2147483648), 2147483647)], fixedsWhole_f17⟩ GB ct_ftrunc 4000 4 [(.int .i32 (.var 0))] = .need (.cmp .ne (.app 8 (.cons (.var 0) .nil)) (.app 7 (.cons (.var 0) .nil))) := by kernel_rfl
theorem fixedsWhole_n18 : exFun Tryd.prog ⟨G, GI, [((-2147483648), 2147483647)], fixedsWhole_f18⟩ GB ct_ftrunc 4000 4 [(.int .i32 (.var 0))] = .ok (.bool (.lit false)) := by kernel_rfl
theorem fixedsWhole_n19 : exFun Tryd.prog ⟨G, GI, [((-2147483648), 2147483647)], fixedsWhole_f19⟩ GB ct_ftrunc 4000 4 [(.int .i32 (.var 0))] = .need (.cmp .ne (.app 9 (.cons (.var 0) .nil)) (.app 6 (.cons (.var 0) .nil))) := by kernel_rfl
theorem fixedsWhole_n20 : exFun Tryd.prog ⟨G, GI, [((-2147483648), 2147483647)], fixedsWhole_f20⟩ GB ct_ftrunc 4000 4 [(.int .i32 (.var 0))] = .need (.cmp .ne (.app 9 (.cons (.var 0) .nil)) (.app 7 (.cons (.var 0) .nil))) := by kernel_rfl
theorem fixedsWhole_n21 : exFun Tryd.prog ⟨G, GI, [((-2147483648), 2147483647)], fixedsWhole_f21⟩ GB ct_ftrunc 4000 4 [(.int .i32 (.var 0))] = .ok (.bool (.lit false)) := by kernel_rfl
theorem fixedsWhole_n22 : exFun Tryd.prog ⟨G, GI, [((-2147483648), 2147483647)], fixedsWhole_f22⟩ GB ct_ftrunc 4000 4 [(.int .i32 (.var 0))] = .need (.cmp .le (.lit 32768) (.wrap .i32 (.op .sub (.var 0) (.app 6 (.cons (.var 0) .nil))))) := by kernel_rfl
theorem fixedsWhole_n23 : exFun Tryd.prog ⟨G, GI, [((-2147483648), 2147483647)], fixedsWhole_f23⟩ GB ct_ftrunc 4000 4 [(.int .i32 (.var 0))] = .need (.cmp .lt (.lit 0) (.var 0)) := by kernel_rfl
theorem fixedsWhole_n24 : exFun Tryd.prog ⟨G, GI, [((-2147483648), 2147483647)], fixedsWhole_f24⟩ GB ct_ftrunc 4000 4 [(.int .i32 (.var 0))] = .ok (.bool (.lit false)) := by kernel_rfl
theorem fixedsWhole_n25 : exFun Tryd.prog ⟨G, GI, [((-2147483648), 2147483647)], fixedsWhole_f25⟩ GB ct_ftrunc 4000 4 [(.int .i32 (.var 0))] = .ok (.bool (.lit true)) := by kernel_rfl
theorem fixedsWhole_n26 : exFun Tryd.prog ⟨G, GI, [((-2147483648), 2147483647)], fixedsWhole_f26⟩ GB ct_ftrunc 4000 4 [(.int .i32 (.var 0))] = .ok (.bool (.lit false)) := by kernel_rfl
theorem fixedsWhole_n27 : exFun Tryd.prog ⟨G, GI, [((-2147483648), 2147483647)], fixedsWhole_f27⟩ GB ct_ftrunc 4000 4 [(.int .i32 (.var 0))] = .need (.cmp .le (.lit 32768) (.wrap .i32 (.op .sub (.var 0) (.app 6 (.cons (.var 0) .nil))))) := by kernel_rfl
theorem fixedsWhole_n28 : exFun Tryd.prog ⟨G, GI, [((-2147483648), 2147483647)], fixedsWhole_f28⟩ GB ct_ftrunc 4000 4 [(.int .i32 (.var 0))] = .need (.cmp .lt (.lit 0) (.var 0)) := by kernel_rfl
theorem fixedsWhole_n29 : exFun Tryd.prog ⟨G, GI, [((-2147483648), 2147483647)], fixedsWhole_f29⟩ GB ct_ftrunc 4000 4 [(.int .i32 (.var 0))] = .ok (.bool (.lit true)) := by kernel_rfl
end Go.Proofs.YtaballahjgegdaaDoor
