/- What is proved: what the run of a function comes to, on some of its ways. No condition. -/
import Derived.Test.YtaballahjgegdaaDoorLw0
set_option linter.unusedVariables false
set_option maxRecDepth 100000
namespace Go.Proofs.YtaballahjgegdaaDoor
open Go Go.RowKit Sx Wi
theorem fixedsWhole_n90 : exFun Tryd.prog ⟨G, GI, [((-2147483648), 2147483647)], fixedsWhole_f90⟩ GB ct_ftrunc 4000 4 [(.int .i32 (.var 0))] = .ok (.bool (.lit false)) := by kernel_rfl
theorem fixedsWhole_n91 : exFun Tryd.prog ⟨G, GI, [((-2147483648), 2147483647)], fixedsWhole_f91⟩ GB ct_ftrunc 4000 4 [(.int .i32 (.var 0))] = .need (.cmp .le (.lit 32768) (.wrap .i32 (.op .sub (.var 0) (.app 6 (.cons (.var 0) .nil))))) := by kernel_rfl
theorem fixedsWhole_n92 : exFun Tryd.prog ⟨G, GI, [((-2147483648), 2147483647)], fixedsWhole_f92⟩ GB ct_ftrunc 4000 4 [(.int .i32 (.var 0))] = .need (.cmp .ne (.app 8 (.cons (.var 0) .nil)) (.app 7 (.cons (.var 0) .nil))) := by kernel_rfl
theorem fixedsWhole_n93 : exFun Tryd.prog ⟨G, GI, [((-2147483648), 2147483647)], fixedsWhole_f93⟩ GB ct_ftrunc 4000 4 [(.int .i32 (.var 0))] = .ok (.bool (.lit false)) := by kernel_rfl
theorem fixedsWhole_n94 : exFun Tryd.prog ⟨G, GI, [((-2147483648), 2147483647)], fixedsWhole_f94⟩ GB ct_ftrunc 4000 4 [(.int .i32 (.var 0))] = .need (.cmp .lt (.lit 0) (.var 0)) := by kernel_rfl
theorem fixedsWhole_n95 : exFun Tryd.prog ⟨G, GI, [((-2147483648), 2147483647)], fixedsWhole_f95⟩ GB ct_ftrunc 4000 4 [(.int .i32 (.var 0))] = .ok (.bool (.lit true)) := by kernel_rfl
theorem fixedsWhole_n96 : exFun Tryd.prog ⟨G, GI, [((-2147483648), 2147483647)], fixedsWhole_f96⟩ GB ct_ftrunc 4000 4 [(.int .i32 (.var 0))] = .ok (.bool (.lit true)) := by kernel_rfl
theorem fixedsWhole_n97 : exFun Tryd.prog ⟨G, GI, [((-2147483648), 2147483647)], fixedsWhole_f97⟩ GB ct_ftrunc 4000 4 [(.int .i32 (.var 0))] = .need (.cmp .ne (.app 8 (.cons (.var 0) .nil)) (.app 7 (.cons (.var 0) .nil))) := by kernel_rfl
theorem fixedsWhole_n98 : exFun Tryd.prog ⟨G, GI, [((-2147483648), 2147483647)], fixedsWhole_f98⟩ GB ct_ftrunc 4000 4 [(.int .i32 (.var 0))] = .ok (.bool (.lit false)) := by kernel_rfl
theorem fixedsWhole_n99 : exFun Tryd.prog ⟨G, GI, [((-2147483648), 2147483647)], fixedsWhole_f99⟩ GB ct_ftrunc 4000 4 [(.int .i32 (.var 0))] = .need (.cmp .lt (.lit 0) (.var 0)) := by kernel_rfl
theorem fixedsWhole_n100 : exFun Tryd.prog ⟨G, GI, [((-2147483648), 2147483647)], fixedsWhole_f100⟩ GB ct_ftrunc 4000 4 [(.int .i32 (.var 0))] = .ok (.bool (.lit true)) := by kernel_rfl
theorem fixedsWhole_n101 : exFun Tryd.prog ⟨G, GI, [((-2147483648), 2147483647)], fixedsWhole_f101⟩ GB ct_ftrunc 4000 4 [(.int .i32 (.var 0))] = .ok (.bool (.lit true)) := by kernel_rfl
theorem fixedsWhole_n102 : exFun Tryd.prog ⟨G, GI, [((-2147483648), 2147483647)], fixedsWhole_f102⟩ GB ct_ftrunc 4000 4 [(.int .i32 (.var 0))] = .need (.cmp .ne (.app 6 (.cons (.var 0) .nil)) (.var 0)) := by kernel_rfl
theorem fixedsWhole_n103 : exFun Tryd.prog ⟨G, GI, [((-2147483648), 2147483647)], fixedsWhole_f103⟩ GB ct_ftrunc 4000 4 [(.int .i32 (.var 0))] = .ok (.bool (.lit false)) := by kernel_rfl
theorem fixedsWhole_n104 : exFun Tryd.prog ⟨G, GI, [((-2147483648), 2147483647)], fixedsWhole_f104⟩ GB ct_ftrunc 4000 4 [(.int .i32 (.var 0))] = .need (.cmp .ne (.app 6 (.cons (.var 0) .nil)) (.app 7 (.cons (.var 0) .nil))) := by kernel_rfl
theorem fixedsWhole_n105 : exFun Tryd.prog ⟨G, GI, [((-2147483648), 2147483647)], fixedsWhole_f105⟩ GB ct_ftrunc 4000 4 [(.int .i32 (.var 0))] = .ok (.bool (.lit false)) := by kernel_rfl
theorem fixedsWhole_n106 : exFun Tryd.prog ⟨G, GI, [((-2147483648), 2147483647)], fixedsWhole_f106⟩ GB ct_ftrunc 4000 4 [(.int .i32 (.var 0))] = .need (.cmp .ne (.app 8 (.cons (.var 0) .nil)) (.app 6 (.cons (.var 0) .nil))) := by kernel_rfl
theorem fixedsWhole_n107 : exFun Tryd.prog ⟨G, GI, [((-2147483648), 2147483647)], fixedsWhole_f107⟩ GB ct_ftrunc 4000 4 [(.int .i32 (.var 0))] = .need (.cmp .ne (.app 8 (.cons (.var 0) .nil)) (.app 7 (.cons (.var 0) .nil))) := by kernel_rfl
theorem fixedsWhole_n108 : exFun Tryd.prog ⟨G, GI, [((-2147483648), 2147483647)], fixedsWhole_f108⟩ GB ct_ftrunc 4000 4 [(.int .i32 (.var 0))] = .ok (.bool (.lit false)) := by kernel_rfl
theorem fixedsWhole_n109 : exFun Tryd.prog ⟨G, GI, [((-2147483648), 2147483647)], fixedsWhole_f109⟩ GB ct_ftrunc 4000 4 [(.int .i32 (.var 0))] = .need (.cmp .ne (.app 9 (.cons (.var 0) .nil)) (.app 6 (.cons (.var 0) .nil))) := by kernel_rfl
theorem fixedsWhole_n110 : exFun Tryd.prog ⟨G, GI, [((-2147483648), 2147483647)], fixedsWhole_f110⟩ GB ct_ftrunc 4000 4 [(.int .i32 (.var 0))] = .need (.cmp .ne (.app 9 (.cons (.var 0) .nil)) (.app 7 (.cons (.var 0) .nil))) := by kernel_rfl
theorem fixedsWhole_n111 : exFun Tryd.prog ⟨G, GI, [((-2147483648), 2147483647)], fixedsWhole_f111⟩ GB ct_ftrunc 4000 4 [(.int .i32 (.var 0))] = .ok (.bool (.lit false)) := by kernel_rfl
theorem fixedsWhole_n112 : exFun Tryd.prog ⟨G, GI, [((-2147483648), 2147483647)], fixedsWhole_f112⟩ GB ct_ftrunc 4000 4 [(.int .i32 (.var 0))] = .need (.cmp .le (.lit 32768) (.wrap .i32 (.op .sub (.var 0) (.app 6 (.cons (.var 0) .nil))))) := by kernel_rfl
theorem fixedsWhole_n113 : exFun Tryd.prog ⟨G, GI, [((-2147483648), 2147483647)], fixedsWhole_f113⟩ GB ct_ftrunc 4000 4 [(.int .i32 (.var 0))] = .need (.cmp .lt (.lit 0) (.var 0)) := by kernel_rfl
theorem fixedsWhole_n114 : exFun Tryd.prog ⟨G, GI, [((-2147483648), 2147483647)], fixedsWhole_f114⟩ GB ct_ftrunc 4000 4 [(.int .i32 (.var 0))] = .ok (.bool (.lit false)) := by kernel_rfl
theorem fixedsWhole_n115 : exFun Tryd.prog ⟨G, GI, [((-2147483648), 2147483647)], fixedsWhole_f115⟩ GB ct_ftrunc 4000 4 [(.int .i32 (.var 0))] = .ok (.bool (.lit false)) := by kernel_rfl
theorem fixedsWhole_n116 : exFun Tryd.prog ⟨G, GI, [((-2147483648), 2147483647)], fixedsWhole_f116⟩ GB ct_ftrunc 4000 4 [(.int .i32 (.var 0))] = .need (.cmp .lt (.lit 0) (.var 0)) := by kernel_rfl
theorem fixedsWhole_n117 : exFun Tryd.prog ⟨G, GI, [((-2147483648), 2147483647)], fixedsWhole_f117⟩ GB ct_ftrunc 4000 4 [(.int .i32 (.var 0))] = .ok (.bool (.lit false)) := by kernel_rfl
theorem fixedsWhole_n118 : exFun Tryd.prog ⟨G, GI, [((-2147483648), 2147483647)], fixedsWhole_f118⟩ GB ct_ftrunc 4000 4 [(.int .i32 (.var 0))] = .ok (.bool (.lit false)) := by kernel_rfl
theorem fixedsWhole_n119 : exFun Tryd.prog ⟨G, GI, [((-2147483648), 2147483647)], fixedsWhole_f119⟩ GB ct_ftrunc 4000 4 [(.int .i32 (.var 0))] = .need (.cmp .le (.lit 32768) (.wrap .i32 (.op .sub (.var 0) (.app 6 (.cons (.var 0) .nil))))) := by kernel_rfl
end Go.Proofs.YtaballahjgegdaaDoor
