/- What is proved: what the run of a function comes to, on some of its ways. No condition. -/
import Derived.Test.YtkpdiehbaiepaaaQNat0
set_option linter.unusedSimpArgs false
set_option linter.unusedVariables false
set_option maxRecDepth 100000
namespace Go.Proofs.Ytkpdiehbaiepaaa
open Go Go.RowKit Sx Wi
theorem at_n53 : at_R Try.prog at_f53 = .ok (.tuple [(.agg [(.int .i64 (.lit 0)), (.int .i64 (.lit 0))]), (.int .i64 (.lit 1))]) := by kernel_rfl
theorem at_n55 : at_R Try.prog at_f55 = .ok (.tuple [(.agg [(.int .i64 (.lit 0)), (.int .i64 (.lit 0))]), (.int .i64 (.lit 1))]) := by kernel_rfl
theorem at_n57 : at_R Try.prog at_f57 = .ok (.tuple [(.agg [(.int .i64 (.lit 0)), (.int .i64 (.lit 0))]), (.int .i64 (.lit 1))]) := by kernel_rfl
theorem at_n59 : at_R Try.prog at_f59 = .ok (.tuple [(.agg [(.int .i64 (.lit 0)), (.int .i64 (.lit 0))]), (.int .i64 (.lit 1))]) := by kernel_rfl
theorem at_n61 : at_R Try.prog at_f61 = .ok (.tuple [(.agg [(.int .i64 (.lit 0)), (.int .i64 (.lit 0))]), (.int .i64 (.lit 1))]) := by kernel_rfl
theorem at_n63 : at_R Try.prog at_f63 = .ok (.tuple [(.agg [(.int .i64 (.lit 0)), (.int .i64 (.lit 0))]), (.int .i64 (.lit 1))]) := by kernel_rfl
end Go.Proofs.Ytkpdiehbaiepaaa
set_option maxRecDepth 100000
namespace Go.Proofs.Ytkpdiehbaiepaaa
open Go Go.RowKit Sx Wi
theorem at_n65 : at_R Try.prog at_f65 = .ok (.tuple [(.agg [(.int .i64 (.lit 0)), (.int .i64 (.lit 0))]), (.int .i64 (.lit 1))]) := by kernel_rfl
theorem at_n67 : at_R Try.prog at_f67 = .ok (.tuple [(.agg [(.int .i64 (.lit 0)), (.int .i64 (.lit 0))]), (.int .i64 (.lit 1))]) := by kernel_rfl
theorem at_n69 : at_R Try.prog at_f69 = .ok (.tuple [(.agg [(.int .i64 (.lit 0)), (.int .i64 (.lit 0))]), (.int .i64 (.lit 1))]) := by kernel_rfl
theorem at_n71 : at_R Try.prog at_f71 = .ok (.tuple [(.agg [(.int .i64 (.lit 0)), (.int .i64 (.lit 0))]), (.int .i64 (.lit 1))]) := by kernel_rfl
theorem at_n76 : at_R Try.prog at_f76 = .ok (.tuple [(.agg [(.int .i64 at_E0), (.int .i64 at_E1)]), (.int .i64 (.lit 0))]) := by kernel_rfl
theorem at_n77 : at_R Try.prog at_f77 = .ok (.tuple [(.agg [(.int .i64 at_E0), (.int .i64 (.lit 0))]), (.int .i64 (.lit 0))]) := by kernel_rfl
end Go.Proofs.Ytkpdiehbaiepaaa
set_option maxRecDepth 100000
namespace Go.Proofs.Ytkpdiehbaiepaaa
open Go Go.RowKit Sx Wi
theorem at_n78 : at_R Try.prog at_f78 = .ok (.tuple [(.agg [(.int .i64 at_E0), (.int .i64 (.lit 0))]), (.int .i64 (.lit 0))]) := by kernel_rfl
theorem at_n81 : at_R Try.prog at_f81 = .ok (.tuple [(.agg [(.int .i64 (.lit 0)), (.int .i64 at_E1)]), (.int .i64 (.lit 0))]) := by kernel_rfl
theorem at_n82 : at_R Try.prog at_f82 = .ok (.tuple [(.agg [(.int .i64 (.lit 0)), (.int .i64 (.lit 0))]), (.int .i64 (.lit 0))]) := by kernel_rfl
theorem at_n83 : at_R Try.prog at_f83 = .ok (.tuple [(.agg [(.int .i64 (.lit 0)), (.int .i64 (.lit 0))]), (.int .i64 (.lit 0))]) := by kernel_rfl
theorem at_n86 : at_R Try.prog at_f86 = .ok (.tuple [(.agg [(.int .i64 (.lit 0)), (.int .i64 at_E1)]), (.int .i64 (.lit 0))]) := by kernel_rfl
theorem at_n87 : at_R Try.prog at_f87 = .ok (.tuple [(.agg [(.int .i64 (.lit 0)), (.int .i64 (.lit 0))]), (.int .i64 (.lit 0))]) := by kernel_rfl
end Go.Proofs.Ytkpdiehbaiepaaa
set_option maxRecDepth 100000
namespace Go.Proofs.Ytkpdiehbaiepaaa
open Go Go.RowKit Sx Wi
theorem at_n88 : at_R Try.prog at_f88 = .ok (.tuple [(.agg [(.int .i64 (.lit 0)), (.int .i64 (.lit 0))]), (.int .i64 (.lit 0))]) := by kernel_rfl
theorem at_n89 : at_R Try.prog at_f89 = .ok (.tuple [(.agg [(.int .i64 (.lit 0)), (.int .i64 (.lit 0))]), (.int .i64 (.lit 1))]) := by kernel_rfl
theorem at_n90 : at_R Try.prog at_f90 = .ok (.tuple [(.agg [(.int .i64 (.lit 0)), (.int .i64 (.lit 0))]), (.int .i64 (.lit 1))]) := by kernel_rfl
theorem at_n91 : at_R Try.prog at_f91 = .ok (.tuple [(.agg [(.int .i64 (.lit 0)), (.int .i64 (.lit 0))]), (.int .i64 (.lit 1))]) := by kernel_rfl
theorem at_n92 : at_R Try.prog at_f92 = .ok (.tuple [(.agg [(.int .i64 (.lit 0)), (.int .i64 (.lit 0))]), (.int .i64 (.lit 1))]) := by kernel_rfl
end Go.Proofs.Ytkpdiehbaiepaaa
