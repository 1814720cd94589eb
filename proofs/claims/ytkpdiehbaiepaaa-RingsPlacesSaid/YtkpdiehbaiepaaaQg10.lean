/- What is proved: the run of a function over its ways, and what is known on each. No condition. -/
import Derived.Test.YtkpdiehbaiepaaaQOg0
set_option linter.unusedSimpArgs false
set_option linter.unusedVariables false
set_option maxRecDepth 100000
namespace Go.Proofs.Ytkpdiehbaiepaaa
open Go Go.RowKit Sx Wi
def ogf0_R (P : Program) (fs : List B) : Res SV := ring_run0 P fs
def ogf0_f0 : List B := []
theorem ogf0_n0 : ogf0_R Try.prog ogf0_f0 = .ok (.tuple [(.agg []), (.bool (.lit true))]) := by kernel_rfl
end Go.Proofs.Ytkpdiehbaiepaaa
set_option maxRecDepth 100000
namespace Go.Proofs.Ytkpdiehbaiepaaa
open Go Go.RowKit Sx Wi
def ogf1_R (P : Program) (fs : List B) : Res SV := ring_run1 P fs
def ogf1_f0 : List B := []
theorem ogf1_n0 : ogf1_R Try.prog ogf1_f0 = .ok (.tuple [(.agg []), (.bool (.lit true))]) := by kernel_rfl
end Go.Proofs.Ytkpdiehbaiepaaa
set_option maxRecDepth 100000
namespace Go.Proofs.Ytkpdiehbaiepaaa
open Go Go.RowKit Sx Wi
def ogf2_R (P : Program) (fs : List B) : Res SV := ring_run2 P fs
def ogf2_f0 : List B := []
theorem ogf2_n0 : ogf2_R Try.prog ogf2_f0 = .ok (.tuple [(.agg []), (.bool (.lit true))]) := by kernel_rfl
end Go.Proofs.Ytkpdiehbaiepaaa
set_option maxRecDepth 100000
namespace Go.Proofs.Ytkpdiehbaiepaaa
open Go Go.RowKit Sx Wi
def ogf3_R (P : Program) (fs : List B) : Res SV := ring_run3 P fs
def ogf3_f0 : List B := []
theorem ogf3_n0 : ogf3_R Try.prog ogf3_f0 = .ok (.tuple [(.agg []), (.bool (.lit true))]) := by kernel_rfl
end Go.Proofs.Ytkpdiehbaiepaaa
