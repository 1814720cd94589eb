/- What is proved: the run of a function over its ways, and what is known on each. No condition. -/
import Derived.Test.YtkpdiehbaiepaaaQOx
set_option linter.unusedSimpArgs false
set_option linter.unusedVariables false
set_option maxRecDepth 100000
namespace Go.Proofs.Ytkpdiehbaiepaaa
open Go Go.RowKit Sx Wi
def of_lo_R (P : Program) (fs : List B) : Res SV := of_run_lo P fs
def of_lo_f0 : List B := []
def of_lo_b0 : B := (.cmp .le (.lit 1) (.var 32))
def of_lo_f1 : List B := grow of_lo_b0 ++ of_lo_f0
def of_lo_b1 : B := (.cmp .le (.var 32) (.var 33))
def of_lo_f2 : List B := grow of_lo_b1 ++ of_lo_f1
def of_lo_b2 : B := (.cmp .lt (.lit 6) (.var 33))
def of_lo_f3 : List B := grow of_lo_b2 ++ of_lo_f2
def of_lo_f4 : List B := grow (B.neg of_lo_b2) ++ of_lo_f2
def of_lo_b4 : B := (.and (.cmp .le (.lit 0) (.lit 0)) (.and (.cmp .le (.lit 0) (.lit 6)) (.and (.cmp .le (.lit 0) (.lit 0)) (.and (.cmp .le (.lit 0) (.op .shl (.lit 1) (.lit 0))) (.and (.cmp .le (.lit 0) (.lit 0)) (.and (.cmp .le (.lit 0) (.op .shl (.lit 1) (.lit 0))) (.and (.cmp .le (.lit (-1099511627776)) (.var 0)) (.and (.cmp .le (.var 0) (.lit 1099511627776)) (.and (.cmp .le (.lit (-1099511627776)) (.var 2)) (.and (.cmp .le (.var 2) (.lit 1099511627776)) (.and (.cmp .le (.lit (-1099511627776)) (.var 4)) (.and (.cmp .le (.var 4) (.lit 1099511627776)) (.and (.cmp .le (.lit (-1099511627776)) (.var 6)) (.and (.cmp .le (.var 6) (.lit 1099511627776)) (.and (.cmp .le (.lit (-1099511627776)) (.var 8)) (.and (.cmp .le (.var 8) (.lit 1099511627776)) (.and (.cmp .le (.lit (-1099511627776)) (.var 10)) (.and (.cmp .le (.var 10) (.lit 1099511627776)) (.and (.cmp .le (.lit (-1099511627776)) (.var 12)) (.and (.cmp .le (.var 12) (.lit 1099511627776)) (.and (.cmp .le (.lit (-1099511627776)) (.var 14)) (.and (.cmp .le (.var 14) (.lit 1099511627776)) (.and (.cmp .le (.lit (-1099511627776)) (.var 16)) (.and (.cmp .le (.var 16) (.lit 1099511627776)) (.and (.cmp .le (.lit (-1099511627776)) (.var 18)) (.and (.cmp .le (.var 18) (.lit 1099511627776)) (.and (.cmp .le (.lit (-1099511627776)) (.var 20)) (.and (.cmp .le (.var 20) (.lit 1099511627776)) (.and (.cmp .le (.lit (-1099511627776)) (.var 22)) (.and (.cmp .le (.var 22) (.lit 1099511627776)) (.and (.cmp .le (.lit (-1099511627776)) (.var 24)) (.and (.cmp .le (.var 24) (.lit 1099511627776)) (.and (.cmp .le (.lit (-1099511627776)) (.var 26)) (.and (.cmp .le (.var 26) (.lit 1099511627776)) (.and (.cmp .le (.lit (-1099511627776)) (.var 28)) (.and (.cmp .le (.var 28) (.lit 1099511627776)) (.and (.cmp .le (.lit (-1099511627776)) (.var 30)) (.and (.cmp .le (.var 30) (.lit 1099511627776)) (.and (.cmp .le (.lit (-1099511627776)) (.var 1)) (.and (.cmp .le (.var 1) (.lit 1099511627776)) (.and (.cmp .le (.lit (-1099511627776)) (.var 3)) (.and (.cmp .le (.var 3) (.lit 1099511627776)) (.and (.cmp .le (.lit (-1099511627776)) (.var 5)) (.and (.cmp .le (.var 5) (.lit 1099511627776)) (.and (.cmp .le (.lit (-1099511627776)) (.var 7)) (.and (.cmp .le (.var 7) (.lit 1099511627776)) (.and (.cmp .le (.lit (-1099511627776)) (.var 9)) (.and (.cmp .le (.var 9) (.lit 1099511627776)) (.and (.cmp .le (.lit (-1099511627776)) (.var 11)) (.and (.cmp .le (.var 11) (.lit 1099511627776)) (.and (.cmp .le (.lit (-1099511627776)) (.var 13)) (.and (.cmp .le (.var 13) (.lit 1099511627776)) (.and (.cmp .le (.lit (-1099511627776)) (.var 15)) (.and (.cmp .le (.var 15) (.lit 1099511627776)) (.and (.cmp .le (.lit (-1099511627776)) (.var 17)) (.and (.cmp .le (.var 17) (.lit 1099511627776)) (.and (.cmp .le (.lit (-1099511627776)) (.var 19)) (.and (.cmp .le (.var 19) (.lit 1099511627776)) (.and (.cmp .le (.lit (-1099511627776)) (.var 21)) (.and (.cmp .le (.var 21) (.lit 1099511627776)) (.and (.cmp .le (.lit (-1099511627776)) (.var 23)) (.and (.cmp .le (.var 23) (.lit 1099511627776)) (.and (.cmp .le (.lit (-1099511627776)) (.var 25)) (.and (.cmp .le (.var 25) (.lit 1099511627776)) (.and (.cmp .le (.lit (-1099511627776)) (.var 27)) (.and (.cmp .le (.var 27) (.lit 1099511627776)) (.and (.cmp .le (.lit (-1099511627776)) (.var 29)) (.and (.cmp .le (.var 29) (.lit 1099511627776)) (.and (.cmp .le (.lit (-1099511627776)) (.var 31)) (.cmp .le (.var 31) (.lit 1099511627776)))))))))))))))))))))))))))))))))))))))))))))))))))))))))))))))))))))))
def of_lo_f5 : List B := grow of_lo_b4 ++ of_lo_f4
def of_lo_f6 : List B := grow (B.neg of_lo_b4) ++ of_lo_f4
def of_lo_f7 : List B := grow (B.neg of_lo_b1) ++ of_lo_f1
def of_lo_f8 : List B := grow (B.neg of_lo_b0) ++ of_lo_f0
theorem of_lo_n3 : of_lo_R Try.prog of_lo_f3 = .ok (.tuple [(.agg []), (.bool (.lit false))]) := by kernel_rfl
theorem of_lo_n5 : of_lo_R Try.prog of_lo_f5 = .ok (.tuple [(.agg []), (.bool (.lit true))]) := by kernel_rfl
theorem of_lo_n6 : of_lo_R Try.prog of_lo_f6 = .ok (.tuple [(.agg []), (.bool (.lit false))]) := by kernel_rfl
theorem of_lo_n7 : of_lo_R Try.prog of_lo_f7 = .ok (.tuple [(.agg []), (.bool (.lit false))]) := by kernel_rfl
theorem of_lo_n8 : of_lo_R Try.prog of_lo_f8 = .ok (.tuple [(.agg []), (.bool (.lit false))]) := by kernel_rfl
end Go.Proofs.Ytkpdiehbaiepaaa
set_option maxRecDepth 100000
namespace Go.Proofs.Ytkpdiehbaiepaaa
open Go Go.RowKit Sx Wi
def of_hi_R (P : Program) (fs : List B) : Res SV := of_run_hi P fs
def of_hi_f0 : List B := []
def of_hi_b0 : B := (.cmp .le (.var 32) (.var 33))
def of_hi_f1 : List B := grow of_hi_b0 ++ of_hi_f0
def of_hi_f2 : List B := grow (B.neg of_hi_b0) ++ of_hi_f0
theorem of_hi_n1 : of_hi_R Try.prog of_hi_f1 = .ok (.tuple [(.agg []), (.bool (.lit false))]) := by kernel_rfl
theorem of_hi_n2 : of_hi_R Try.prog of_hi_f2 = .ok (.tuple [(.agg []), (.bool (.lit false))]) := by kernel_rfl
end Go.Proofs.Ytkpdiehbaiepaaa
