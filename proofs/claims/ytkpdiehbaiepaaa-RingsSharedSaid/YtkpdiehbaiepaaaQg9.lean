/- What is proved: the run of a function over its ways, and what is known on each. No condition. -/
import Derived.Test.YtkpdiehbaiepaaaQRl
set_option linter.unusedSimpArgs false
set_option linter.unusedVariables false
set_option maxRecDepth 100000
namespace Go.Proofs.Ytkpdiehbaiepaaa
open Go Go.RowKit Sx Wi
def line0_R (P : Program) (fs : List B) : Res SV := line_run0 P fs
def line0_f0 : List B := []
def line0_b0 : B := (.cmp .lt (.var 33) (.op .shl (.lit 1) (.var 32)))
def line0_f1 : List B := grow line0_b0 ++ line0_f0
def line0_f2 : List B := grow (B.neg line0_b0) ++ line0_f0
theorem line0_n1 : line0_R Try.prog line0_f1 = .ok (.agg [(.int .i64 (.op .add (.var 34) (.lit 1))), (.int .i64 (.var 34)), (.int .i64 (.op .add (.var 33) (.lit 1))), (.int .i64 (.var 33)), (.int .i64 (.app 91 (.cons (.var 35) (.cons (.app 10 (.cons (.var 0) (.cons (.var 8) (.cons (.var 16) (.cons (.var 24) (.cons (.var 33) (.cons (.var 32) .nil))))))) (.cons (.app 10 (.cons (.var 1) (.cons (.var 9) (.cons (.var 17) (.cons (.var 25) (.cons (.var 33) (.cons (.var 32) .nil))))))) .nil))))), (.int .i64 (.var 35)), (.int .i64 (.op .add (.var 34) (.lit 1))), (.int .i64 (.var 34))]) := by kernel_rfl
theorem line0_n2 : line0_R Try.prog line0_f2 = .ok (.tuple [(.agg [(.int .i64 (.var 34)), (.int .i64 (.op .shl (.lit 1) (.var 32))), (.int .i64 (.var 35)), (.int .i64 (.app 40 (.cons (.var 0) (.cons (.var 1) (.cons (.var 2) (.cons (.var 3) (.cons (.var 4) (.cons (.var 5) (.cons (.var 6) (.cons (.var 7) (.cons (.var 8) (.cons (.var 9) (.cons (.var 10) (.cons (.var 11) (.cons (.var 12) (.cons (.var 13) (.cons (.var 14) (.cons (.var 15) (.cons (.var 16) (.cons (.var 17) (.cons (.var 18) (.cons (.var 19) (.cons (.var 20) (.cons (.var 21) (.cons (.var 22) (.cons (.var 23) (.cons (.var 24) (.cons (.var 25) (.cons (.var 26) (.cons (.var 27) (.cons (.var 28) (.cons (.var 29) (.cons (.var 30) (.cons (.var 31) (.cons (.var 32) (.cons (.lit 1) .nil)))))))))))))))))))))))))))))))))))), (.int .i64 (.var 34)), (.int .i64 (.op .shl (.lit 1) (.var 32)))]), (.bool (.lit true))]) := by kernel_rfl
end Go.Proofs.Ytkpdiehbaiepaaa
set_option maxRecDepth 100000
namespace Go.Proofs.Ytkpdiehbaiepaaa
open Go Go.RowKit Sx Wi
def line1_R (P : Program) (fs : List B) : Res SV := line_run1 P fs
def line1_f0 : List B := []
def line1_b0 : B := (.cmp .lt (.var 33) (.op .shl (.lit 1) (.var 32)))
def line1_f1 : List B := grow line1_b0 ++ line1_f0
def line1_f2 : List B := grow (B.neg line1_b0) ++ line1_f0
theorem line1_n1 : line1_R Try.prog line1_f1 = .ok (.agg [(.int .i64 (.op .add (.var 34) (.lit 1))), (.int .i64 (.var 34)), (.int .i64 (.op .add (.var 33) (.lit 1))), (.int .i64 (.var 33)), (.int .i64 (.app 91 (.cons (.var 35) (.cons (.app 10 (.cons (.var 24) (.cons (.var 26) (.cons (.var 28) (.cons (.var 30) (.cons (.var 33) (.cons (.var 32) .nil))))))) (.cons (.app 10 (.cons (.var 25) (.cons (.var 27) (.cons (.var 29) (.cons (.var 31) (.cons (.var 33) (.cons (.var 32) .nil))))))) .nil))))), (.int .i64 (.var 35)), (.int .i64 (.op .add (.var 34) (.lit 1))), (.int .i64 (.var 34))]) := by kernel_rfl
theorem line1_n2 : line1_R Try.prog line1_f2 = .ok (.tuple [(.agg [(.int .i64 (.var 34)), (.int .i64 (.op .mul (.lit 2) (.op .shl (.lit 1) (.var 32)))), (.int .i64 (.var 35)), (.int .i64 (.app 40 (.cons (.var 0) (.cons (.var 1) (.cons (.var 2) (.cons (.var 3) (.cons (.var 4) (.cons (.var 5) (.cons (.var 6) (.cons (.var 7) (.cons (.var 8) (.cons (.var 9) (.cons (.var 10) (.cons (.var 11) (.cons (.var 12) (.cons (.var 13) (.cons (.var 14) (.cons (.var 15) (.cons (.var 16) (.cons (.var 17) (.cons (.var 18) (.cons (.var 19) (.cons (.var 20) (.cons (.var 21) (.cons (.var 22) (.cons (.var 23) (.cons (.var 24) (.cons (.var 25) (.cons (.var 26) (.cons (.var 27) (.cons (.var 28) (.cons (.var 29) (.cons (.var 30) (.cons (.var 31) (.cons (.var 32) (.cons (.lit 2) .nil)))))))))))))))))))))))))))))))))))), (.int .i64 (.var 34)), (.int .i64 (.op .mul (.lit 2) (.op .shl (.lit 1) (.var 32))))]), (.bool (.lit true))]) := by kernel_rfl
end Go.Proofs.Ytkpdiehbaiepaaa
set_option maxRecDepth 100000
namespace Go.Proofs.Ytkpdiehbaiepaaa
open Go Go.RowKit Sx Wi
def line2_R (P : Program) (fs : List B) : Res SV := line_run2 P fs
def line2_f0 : List B := []
def line2_b0 : B := (.cmp .lt (.var 33) (.op .shl (.lit 1) (.var 32)))
def line2_f1 : List B := grow line2_b0 ++ line2_f0
def line2_f2 : List B := grow (B.neg line2_b0) ++ line2_f0
theorem line2_n1 : line2_R Try.prog line2_f1 = .ok (.agg [(.int .i64 (.op .add (.var 34) (.lit 1))), (.int .i64 (.var 34)), (.int .i64 (.op .add (.var 33) (.lit 1))), (.int .i64 (.var 33)), (.int .i64 (.app 91 (.cons (.var 35) (.cons (.app 10 (.cons (.var 30) (.cons (.var 22) (.cons (.var 14) (.cons (.var 6) (.cons (.var 33) (.cons (.var 32) .nil))))))) (.cons (.app 10 (.cons (.var 31) (.cons (.var 23) (.cons (.var 15) (.cons (.var 7) (.cons (.var 33) (.cons (.var 32) .nil))))))) .nil))))), (.int .i64 (.var 35)), (.int .i64 (.op .add (.var 34) (.lit 1))), (.int .i64 (.var 34))]) := by kernel_rfl
theorem line2_n2 : line2_R Try.prog line2_f2 = .ok (.tuple [(.agg [(.int .i64 (.var 34)), (.int .i64 (.op .mul (.lit 3) (.op .shl (.lit 1) (.var 32)))), (.int .i64 (.var 35)), (.int .i64 (.app 40 (.cons (.var 0) (.cons (.var 1) (.cons (.var 2) (.cons (.var 3) (.cons (.var 4) (.cons (.var 5) (.cons (.var 6) (.cons (.var 7) (.cons (.var 8) (.cons (.var 9) (.cons (.var 10) (.cons (.var 11) (.cons (.var 12) (.cons (.var 13) (.cons (.var 14) (.cons (.var 15) (.cons (.var 16) (.cons (.var 17) (.cons (.var 18) (.cons (.var 19) (.cons (.var 20) (.cons (.var 21) (.cons (.var 22) (.cons (.var 23) (.cons (.var 24) (.cons (.var 25) (.cons (.var 26) (.cons (.var 27) (.cons (.var 28) (.cons (.var 29) (.cons (.var 30) (.cons (.var 31) (.cons (.var 32) (.cons (.lit 3) .nil)))))))))))))))))))))))))))))))))))), (.int .i64 (.var 34)), (.int .i64 (.op .mul (.lit 3) (.op .shl (.lit 1) (.var 32))))]), (.bool (.lit true))]) := by kernel_rfl
end Go.Proofs.Ytkpdiehbaiepaaa
set_option maxRecDepth 100000
namespace Go.Proofs.Ytkpdiehbaiepaaa
open Go Go.RowKit Sx Wi
def line3_R (P : Program) (fs : List B) : Res SV := line_run3 P fs
def line3_f0 : List B := []
def line3_b0 : B := (.cmp .lt (.var 33) (.op .shl (.lit 1) (.var 32)))
def line3_f1 : List B := grow line3_b0 ++ line3_f0
def line3_f2 : List B := grow (B.neg line3_b0) ++ line3_f0
theorem line3_n1 : line3_R Try.prog line3_f1 = .ok (.agg [(.int .i64 (.op .add (.var 34) (.lit 1))), (.int .i64 (.var 34)), (.int .i64 (.op .add (.var 33) (.lit 1))), (.int .i64 (.var 33)), (.int .i64 (.app 91 (.cons (.var 35) (.cons (.app 10 (.cons (.var 6) (.cons (.var 4) (.cons (.var 2) (.cons (.var 0) (.cons (.var 33) (.cons (.var 32) .nil))))))) (.cons (.app 10 (.cons (.var 7) (.cons (.var 5) (.cons (.var 3) (.cons (.var 1) (.cons (.var 33) (.cons (.var 32) .nil))))))) .nil))))), (.int .i64 (.var 35)), (.int .i64 (.op .add (.var 34) (.lit 1))), (.int .i64 (.var 34))]) := by kernel_rfl
theorem line3_n2 : line3_R Try.prog line3_f2 = .ok (.tuple [(.agg [(.int .i64 (.var 34)), (.int .i64 (.op .mul (.lit 4) (.op .shl (.lit 1) (.var 32)))), (.int .i64 (.var 35)), (.int .i64 (.app 40 (.cons (.var 0) (.cons (.var 1) (.cons (.var 2) (.cons (.var 3) (.cons (.var 4) (.cons (.var 5) (.cons (.var 6) (.cons (.var 7) (.cons (.var 8) (.cons (.var 9) (.cons (.var 10) (.cons (.var 11) (.cons (.var 12) (.cons (.var 13) (.cons (.var 14) (.cons (.var 15) (.cons (.var 16) (.cons (.var 17) (.cons (.var 18) (.cons (.var 19) (.cons (.var 20) (.cons (.var 21) (.cons (.var 22) (.cons (.var 23) (.cons (.var 24) (.cons (.var 25) (.cons (.var 26) (.cons (.var 27) (.cons (.var 28) (.cons (.var 29) (.cons (.var 30) (.cons (.var 31) (.cons (.var 32) (.cons (.lit 4) .nil)))))))))))))))))))))))))))))))))))), (.int .i64 (.var 34)), (.int .i64 (.op .mul (.lit 4) (.op .shl (.lit 1) (.var 32))))]), (.bool (.lit true))]) := by kernel_rfl
end Go.Proofs.Ytkpdiehbaiepaaa
