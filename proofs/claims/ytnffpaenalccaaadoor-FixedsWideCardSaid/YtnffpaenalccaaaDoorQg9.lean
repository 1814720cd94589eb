/- What is proved: the run of a function over its ways, and what is known on each. No condition. -/
import Derived.Test.YtnffpaenalccaaaDoorQg8
import Derived.Test.YtnffpaenalccaaaDoorQg2
import Derived.Test.YtnffpaenalccaaaDoorQg4
set_option linter.unusedSimpArgs false
set_option linter.unusedVariables false
set_option maxRecDepth 100000
namespace Go.Proofs.YtnffpaenalccaaaDoor
open Go Go.RowKit Sx Wi
def small_R (P : Program) (fs : List B) : Res SV := withCtx G GI [((-9223372036854775808), 9223372036854775807)] fs (fun X => exFun P X GB ct_divided 3000 50 [.int .i64 (.var 0)])
def small_f0 : List B := []
def small_b0 : B := (.cmp .lt (.var 0) (.lit 0))
def small_f1 : List B := grow small_b0 ++ small_f0
def small_f2 : List B := grow (B.neg small_b0) ++ small_f0
theorem small_n1 : small_R Tryd.prog small_f1 = .ok (.agg ([(.bool (.lit true))] ++ digL (.op .sub (.lit 340282366920938463463374607431768211456) (.op .add (.op .add (.op .add (.op .add (.op .add (.op .add (.op .add (.op .add (.op .add (.op .add (.op .add (.op .rem (.op .fdiv (.wrap .u64 (.var 0)) (.lit 1)) (.lit 65536)) (.op .mul (.lit 65536) (.op .rem (.op .fdiv (.wrap .u64 (.var 0)) (.lit 65536)) (.lit 65536)))) (.op .mul (.lit 4294967296) (.op .rem (.op .fdiv (.wrap .u64 (.var 0)) (.lit 4294967296)) (.lit 65536)))) (.op .mul (.lit 281474976710656) (.op .fdiv (.wrap .u64 (.var 0)) (.lit 281474976710656)))) (.op .mul (.lit 18446744073709551616) (.lit 65535))) (.op .mul (.lit 1208925819614629174706176) (.lit 65535))) (.op .mul (.lit 79228162514264337593543950336) (.lit 65535))) (.op .mul (.lit 5192296858534827628530496329220096) (.lit 65535))) (.op .mul (.lit 340282366920938463463374607431768211456) (.lit 0))) (.op .mul (.lit 22300745198530623141535718272648361505980416) (.lit 0))) (.op .mul (.lit 1461501637330902918203684832716283019655932542976) (.lit 0))) (.op .mul (.lit 95780971304118053647396689196894323976171195136475136) (.lit 0)))))) := by kernel_rfl
theorem small_n2 : small_R Tryd.prog small_f2 = .ok (.agg [(.bool (.lit false)), (.int .i64 (.op .rem (.op .fdiv (.var 0) (.lit 1)) (.lit 65536))), (.int .i64 (.op .rem (.op .fdiv (.var 0) (.lit 65536)) (.lit 65536))), (.int .i64 (.op .rem (.op .fdiv (.var 0) (.lit 4294967296)) (.lit 65536))), (.int .i64 (.op .fdiv (.var 0) (.lit 281474976710656))), (.int .i64 (.lit 0)), (.int .i64 (.lit 0)), (.int .i64 (.lit 0)), (.int .i64 (.lit 0)), (.int .i64 (.lit 0)), (.int .i64 (.lit 0)), (.int .i64 (.lit 0)), (.int .i64 (.lit 0))]) := by kernel_rfl
end Go.Proofs.YtnffpaenalccaaaDoor
set_option maxRecDepth 100000
namespace Go.Proofs.YtnffpaenalccaaaDoor
open Go Go.RowKit Sx Wi
def read_R (P : Program) (fs : List B) : Res SV := withCtx G GI [((-170141183460469231731687303715884105728), 170141183460469231731687303715884105727)] fs (fun X => exFun P X GB ct_divided 3000 60 [.agg [.int .i64 (.app 0 (.cons (.var 0) .nil)), .int .u64 (.app 1 (.cons (.var 0) .nil))]])
def read_f0 : List B := []
def read_b0 : B := (.cmp .lt (.app 0 (.cons (.var 0) .nil)) (.lit 0))
def read_f1 : List B := grow read_b0 ++ read_f0
def read_f2 : List B := grow (B.neg read_b0) ++ read_f0
theorem read_n1 : read_R Tryd.prog read_f1 = .ok (.agg ([(.bool (.lit true))] ++ digL (.op .sub (.lit 340282366920938463463374607431768211456) (.op .add (.op .add (.op .add (.op .add (.op .add (.op .add (.op .add (.op .add (.op .add (.op .add (.op .add (.op .rem (.op .fdiv (.app 1 (.cons (.var 0) .nil)) (.lit 1)) (.lit 65536)) (.op .mul (.lit 65536) (.op .rem (.op .fdiv (.app 1 (.cons (.var 0) .nil)) (.lit 65536)) (.lit 65536)))) (.op .mul (.lit 4294967296) (.op .rem (.op .fdiv (.app 1 (.cons (.var 0) .nil)) (.lit 4294967296)) (.lit 65536)))) (.op .mul (.lit 281474976710656) (.op .fdiv (.app 1 (.cons (.var 0) .nil)) (.lit 281474976710656)))) (.op .mul (.lit 18446744073709551616) (.op .rem (.op .fdiv (.wrap .u64 (.app 0 (.cons (.var 0) .nil))) (.lit 1)) (.lit 65536)))) (.op .mul (.lit 1208925819614629174706176) (.op .rem (.op .fdiv (.wrap .u64 (.app 0 (.cons (.var 0) .nil))) (.lit 65536)) (.lit 65536)))) (.op .mul (.lit 79228162514264337593543950336) (.op .rem (.op .fdiv (.wrap .u64 (.app 0 (.cons (.var 0) .nil))) (.lit 4294967296)) (.lit 65536)))) (.op .mul (.lit 5192296858534827628530496329220096) (.op .fdiv (.wrap .u64 (.app 0 (.cons (.var 0) .nil))) (.lit 281474976710656)))) (.op .mul (.lit 340282366920938463463374607431768211456) (.lit 0))) (.op .mul (.lit 22300745198530623141535718272648361505980416) (.lit 0))) (.op .mul (.lit 1461501637330902918203684832716283019655932542976) (.lit 0))) (.op .mul (.lit 95780971304118053647396689196894323976171195136475136) (.lit 0)))))) := by kernel_rfl
theorem read_n2 : read_R Tryd.prog read_f2 = .ok (.agg [(.bool (.lit false)), (.int .i64 (.op .rem (.op .fdiv (.app 1 (.cons (.var 0) .nil)) (.lit 1)) (.lit 65536))), (.int .i64 (.op .rem (.op .fdiv (.app 1 (.cons (.var 0) .nil)) (.lit 65536)) (.lit 65536))), (.int .i64 (.op .rem (.op .fdiv (.app 1 (.cons (.var 0) .nil)) (.lit 4294967296)) (.lit 65536))), (.int .i64 (.op .fdiv (.app 1 (.cons (.var 0) .nil)) (.lit 281474976710656))), (.int .i64 (.op .rem (.op .fdiv (.app 0 (.cons (.var 0) .nil)) (.lit 1)) (.lit 65536))), (.int .i64 (.op .rem (.op .fdiv (.app 0 (.cons (.var 0) .nil)) (.lit 65536)) (.lit 65536))), (.int .i64 (.op .rem (.op .fdiv (.app 0 (.cons (.var 0) .nil)) (.lit 4294967296)) (.lit 65536))), (.int .i64 (.op .fdiv (.app 0 (.cons (.var 0) .nil)) (.lit 281474976710656))), (.int .i64 (.lit 0)), (.int .i64 (.lit 0)), (.int .i64 (.lit 0)), (.int .i64 (.lit 0))]) := by kernel_rfl
end Go.Proofs.YtnffpaenalccaaaDoor
set_option maxRecDepth 100000
namespace Go.Proofs.YtnffpaenalccaaaDoor
open Go Go.RowKit Sx Wi
def tell_R (P : Program) (fs : List B) : Res SV := withCtx G GI [(0, 1), (0, 6277101735386680763835789423207666416102355444464034512895)] fs (fun X => exFun P X GB ct_divided 3000 53 [.agg (.bool (.cmp .ne (.var 0) (.lit 0)) :: digL (.var 1))])
def tell_f0 : List B := []
def tell_b0 : B := (.cmp .lt (.var 1) (.lit 170141183460469231731687303715884105728))
def tell_f1 : List B := grow tell_b0 ++ tell_f0
def tell_b1 : B := (.cmp .ne (.var 0) (.lit 0))
def tell_f2 : List B := grow tell_b1 ++ tell_f1
def tell_b2 : B := (.cmp .ne (.var 1) (.lit 0))
def tell_f3 : List B := grow tell_b2 ++ tell_f2
def tell_f4 : List B := grow (B.neg tell_b2) ++ tell_f2
def tell_f5 : List B := grow (B.neg tell_b1) ++ tell_f1
def tell_f6 : List B := grow (B.neg tell_b0) ++ tell_f0
def tell_b6 : B := (.cmp .lt (.lit 170141183460469231731687303715884105728) (.var 1))
def tell_f7 : List B := grow tell_b6 ++ tell_f6
def tell_f8 : List B := grow (B.neg tell_b6) ++ tell_f6
def tell_b8 : B := (.cmp .eq (.var 0) (.lit 0))
def tell_f9 : List B := grow tell_b8 ++ tell_f8
def tell_f10 : List B := grow (B.neg tell_b8) ++ tell_f8
theorem tell_n3 : tell_R Tryd.prog tell_f3 = .ok (.tuple [(.agg [(.int .i64 (.wrap .i64 (.op .add (.op .mul (.op .add (.op .mul (.op .add (.op .mul (.app 30 (.cons (.op .sub (.lit 340282366920938463463374607431768211456) (.var 1)) (.cons (.lit 5192296858534827628530496329220096) .nil))) (.lit 65536)) (.app 30 (.cons (.op .sub (.lit 340282366920938463463374607431768211456) (.var 1)) (.cons (.lit 79228162514264337593543950336) .nil)))) (.lit 65536)) (.app 30 (.cons (.op .sub (.lit 340282366920938463463374607431768211456) (.var 1)) (.cons (.lit 1208925819614629174706176) .nil)))) (.lit 65536)) (.app 30 (.cons (.op .sub (.lit 340282366920938463463374607431768211456) (.var 1)) (.cons (.lit 18446744073709551616) .nil)))))), (.int .u64 (.op .add (.op .mul (.op .add (.op .mul (.op .add (.op .mul (.app 30 (.cons (.op .sub (.lit 340282366920938463463374607431768211456) (.var 1)) (.cons (.lit 281474976710656) .nil))) (.lit 65536)) (.app 30 (.cons (.op .sub (.lit 340282366920938463463374607431768211456) (.var 1)) (.cons (.lit 4294967296) .nil)))) (.lit 65536)) (.app 30 (.cons (.op .sub (.lit 340282366920938463463374607431768211456) (.var 1)) (.cons (.lit 65536) .nil)))) (.lit 65536)) (.app 30 (.cons (.op .sub (.lit 340282366920938463463374607431768211456) (.var 1)) (.cons (.lit 1) .nil)))))]), (.int .i64 (.lit 0))]) := by kernel_rfl
theorem tell_n4 : tell_R Tryd.prog tell_f4 = .ok (.tuple [(.agg [(.int .i64 (.wrap .i64 (.op .add (.op .mul (.op .add (.op .mul (.op .add (.op .mul (.app 30 (.cons (.var 1) (.cons (.lit 5192296858534827628530496329220096) .nil))) (.lit 65536)) (.app 30 (.cons (.var 1) (.cons (.lit 79228162514264337593543950336) .nil)))) (.lit 65536)) (.app 30 (.cons (.var 1) (.cons (.lit 1208925819614629174706176) .nil)))) (.lit 65536)) (.app 30 (.cons (.var 1) (.cons (.lit 18446744073709551616) .nil)))))), (.int .u64 (.op .add (.op .mul (.op .add (.op .mul (.op .add (.op .mul (.app 30 (.cons (.var 1) (.cons (.lit 281474976710656) .nil))) (.lit 65536)) (.app 30 (.cons (.var 1) (.cons (.lit 4294967296) .nil)))) (.lit 65536)) (.app 30 (.cons (.var 1) (.cons (.lit 65536) .nil)))) (.lit 65536)) (.app 30 (.cons (.var 1) (.cons (.lit 1) .nil)))))]), (.int .i64 (.lit 0))]) := by kernel_rfl
theorem tell_n5 : tell_R Tryd.prog tell_f5 = .ok (.tuple [(.agg [(.int .i64 (.wrap .i64 (.op .add (.op .mul (.op .add (.op .mul (.op .add (.op .mul (.app 30 (.cons (.var 1) (.cons (.lit 5192296858534827628530496329220096) .nil))) (.lit 65536)) (.app 30 (.cons (.var 1) (.cons (.lit 79228162514264337593543950336) .nil)))) (.lit 65536)) (.app 30 (.cons (.var 1) (.cons (.lit 1208925819614629174706176) .nil)))) (.lit 65536)) (.app 30 (.cons (.var 1) (.cons (.lit 18446744073709551616) .nil)))))), (.int .u64 (.op .add (.op .mul (.op .add (.op .mul (.op .add (.op .mul (.app 30 (.cons (.var 1) (.cons (.lit 281474976710656) .nil))) (.lit 65536)) (.app 30 (.cons (.var 1) (.cons (.lit 4294967296) .nil)))) (.lit 65536)) (.app 30 (.cons (.var 1) (.cons (.lit 65536) .nil)))) (.lit 65536)) (.app 30 (.cons (.var 1) (.cons (.lit 1) .nil)))))]), (.int .i64 (.lit 0))]) := by kernel_rfl
theorem tell_n7 : tell_R Tryd.prog tell_f7 = .ok (.tuple [(.agg [(.int .i64 (.lit 0)), (.int .u64 (.lit 0))]), (.int .i64 (.lit 11))]) := by kernel_rfl
theorem tell_n9 : tell_R Tryd.prog tell_f9 = .ok (.tuple [(.agg [(.int .i64 (.lit 0)), (.int .u64 (.lit 0))]), (.int .i64 (.lit 11))]) := by kernel_rfl
theorem tell_n10 : tell_R Tryd.prog tell_f10 = .ok (.tuple [(.agg [(.int .i64 (.wrap .i64 (.op .add (.op .mul (.op .add (.op .mul (.op .add (.op .mul (.app 30 (.cons (.op .sub (.lit 340282366920938463463374607431768211456) (.var 1)) (.cons (.lit 5192296858534827628530496329220096) .nil))) (.lit 65536)) (.app 30 (.cons (.op .sub (.lit 340282366920938463463374607431768211456) (.var 1)) (.cons (.lit 79228162514264337593543950336) .nil)))) (.lit 65536)) (.app 30 (.cons (.op .sub (.lit 340282366920938463463374607431768211456) (.var 1)) (.cons (.lit 1208925819614629174706176) .nil)))) (.lit 65536)) (.app 30 (.cons (.op .sub (.lit 340282366920938463463374607431768211456) (.var 1)) (.cons (.lit 18446744073709551616) .nil)))))), (.int .u64 (.op .add (.op .mul (.op .add (.op .mul (.op .add (.op .mul (.app 30 (.cons (.op .sub (.lit 340282366920938463463374607431768211456) (.var 1)) (.cons (.lit 281474976710656) .nil))) (.lit 65536)) (.app 30 (.cons (.op .sub (.lit 340282366920938463463374607431768211456) (.var 1)) (.cons (.lit 4294967296) .nil)))) (.lit 65536)) (.app 30 (.cons (.op .sub (.lit 340282366920938463463374607431768211456) (.var 1)) (.cons (.lit 65536) .nil)))) (.lit 65536)) (.app 30 (.cons (.op .sub (.lit 340282366920938463463374607431768211456) (.var 1)) (.cons (.lit 1) .nil)))))]), (.int .i64 (.lit 0))]) := by kernel_rfl
end Go.Proofs.YtnffpaenalccaaaDoor
namespace Go.Proofs.YtnffpaenalccaaaDoor
open Go Go.RowKit Sx Nu Wi
set_option maxHeartbeats 4000000 in
set_option maxRecDepth 100000 in
theorem small_any (x0 : Int) (b0 : (-9223372036854775808) ≤ x0 ∧ x0 ≤ 9223372036854775807) (w : World) (hw : WOk GB w) : Known Tryd.prog 50 ∧ Calls Tryd.prog 50 #[.int .i64 x0] w (fun e w' => e = .returned (.agg (.bool (decide (x0 < 0)) :: digV (if x0 < 0 then 0 - x0 else x0)).toArray) ∧ Below w.heap.size w w') := by
  refine calls_eq (way_calls3 (ρ := rho [x0]) (run := small_R Tryd.prog) (fun _ => rfl) (by kernel_rfl) (within_get ⟨b0, trivial⟩) gi_ok (fun X hX hG => ct_divided_ok hX hG) rfl rfl (gbApart_one _) ?_ w hw)
  refine way_cut (.cmp .lt (.var 0) (.lit 0)) (fun h0 => ?_) (fun h0 => ?_)
  · skip
    refine way_leaf small_n1 ?_
    refine ⟨rfl, ?_⟩; have hs : x0 < 0 := (by simp only [nm, digL, dgE, dgP, dgP1, List.cons_append, List.nil_append, List.append_nil] at *; (try simp only [hi] at *); omega); have e : 0 - x0 = (340282366920938463463374607431768211456 - ((((((((((((Int.tmod (Int.fdiv (IntKind.u64.wrap x0) 1) 65536) + (65536 * (Int.tmod (Int.fdiv (IntKind.u64.wrap x0) 65536) 65536))) + (4294967296 * (Int.tmod (Int.fdiv (IntKind.u64.wrap x0) 4294967296) 65536))) + (281474976710656 * (Int.fdiv (IntKind.u64.wrap x0) 281474976710656))) + (18446744073709551616 * 65535)) + (1208925819614629174706176 * 65535)) + (79228162514264337593543950336 * 65535)) + (5192296858534827628530496329220096 * 65535)) + (340282366920938463463374607431768211456 * 0)) + (22300745198530623141535718272648361505980416 * 0)) + (1461501637330902918203684832716283019655932542976 * 0)) + (95780971304118053647396689196894323976171195136475136 * 0))) := (by (try simp only [IntKind.wrap_u64, IntKind.wrap_i64] at *); (try simp only [hi, lo] at *); (try simp (disch := omega) only [Int.fdiv_eq_ediv_of_nonneg, Int.tmod_eq_emod_of_nonneg] at *); first | done | omega); rw [if_pos hs, decide_eq_true hs, e]; rfl
  refine way_leaf small_n2 ?_
  refine ⟨rfl, ?_⟩; have hs : ¬ x0 < 0 := (by simp only [nm, digL, dgE, dgP, dgP1, List.cons_append, List.nil_append, List.append_nil] at *; (try simp only [hi] at *); omega); have e0 : (Int.tmod (Int.fdiv x0 1) 65536) = dg x0 1 := (by unfold dg; (try simp only [IntKind.wrap_u64, IntKind.wrap_i64] at *); (try simp only [hi, lo] at *); (try simp (disch := omega) only [Int.fdiv_eq_ediv_of_nonneg, Int.tmod_eq_emod_of_nonneg] at *); first | done | omega); have e1 : (Int.tmod (Int.fdiv x0 65536) 65536) = dg x0 65536 := (by unfold dg; (try simp only [IntKind.wrap_u64, IntKind.wrap_i64] at *); (try simp only [hi, lo] at *); (try simp (disch := omega) only [Int.fdiv_eq_ediv_of_nonneg, Int.tmod_eq_emod_of_nonneg] at *); first | done | omega); have e2 : (Int.tmod (Int.fdiv x0 4294967296) 65536) = dg x0 4294967296 := (by unfold dg; (try simp only [IntKind.wrap_u64, IntKind.wrap_i64] at *); (try simp only [hi, lo] at *); (try simp (disch := omega) only [Int.fdiv_eq_ediv_of_nonneg, Int.tmod_eq_emod_of_nonneg] at *); first | done | omega); have e3 : (Int.fdiv x0 281474976710656) = dg x0 281474976710656 := (by unfold dg; (try simp only [IntKind.wrap_u64, IntKind.wrap_i64] at *); (try simp only [hi, lo] at *); (try simp (disch := omega) only [Int.fdiv_eq_ediv_of_nonneg, Int.tmod_eq_emod_of_nonneg] at *); first | done | omega); have e4 : 0 = dg x0 18446744073709551616 := (by unfold dg; (try simp only [IntKind.wrap_u64, IntKind.wrap_i64] at *); (try simp only [hi, lo] at *); (try simp (disch := omega) only [Int.fdiv_eq_ediv_of_nonneg, Int.tmod_eq_emod_of_nonneg] at *); first | done | omega); have e5 : 0 = dg x0 1208925819614629174706176 := (by unfold dg; (try simp only [IntKind.wrap_u64, IntKind.wrap_i64] at *); (try simp only [hi, lo] at *); (try simp (disch := omega) only [Int.fdiv_eq_ediv_of_nonneg, Int.tmod_eq_emod_of_nonneg] at *); first | done | omega); have e6 : 0 = dg x0 79228162514264337593543950336 := (by unfold dg; (try simp only [IntKind.wrap_u64, IntKind.wrap_i64] at *); (try simp only [hi, lo] at *); (try simp (disch := omega) only [Int.fdiv_eq_ediv_of_nonneg, Int.tmod_eq_emod_of_nonneg] at *); first | done | omega); have e7 : 0 = dg x0 5192296858534827628530496329220096 := (by unfold dg; (try simp only [IntKind.wrap_u64, IntKind.wrap_i64] at *); (try simp only [hi, lo] at *); (try simp (disch := omega) only [Int.fdiv_eq_ediv_of_nonneg, Int.tmod_eq_emod_of_nonneg] at *); first | done | omega); have e8 : 0 = dg x0 340282366920938463463374607431768211456 := (by unfold dg; (try simp only [IntKind.wrap_u64, IntKind.wrap_i64] at *); (try simp only [hi, lo] at *); (try simp (disch := omega) only [Int.fdiv_eq_ediv_of_nonneg, Int.tmod_eq_emod_of_nonneg] at *); first | done | omega); have e9 : 0 = dg x0 22300745198530623141535718272648361505980416 := (by unfold dg; (try simp only [IntKind.wrap_u64, IntKind.wrap_i64] at *); (try simp only [hi, lo] at *); (try simp (disch := omega) only [Int.fdiv_eq_ediv_of_nonneg, Int.tmod_eq_emod_of_nonneg] at *); first | done | omega); have e10 : 0 = dg x0 1461501637330902918203684832716283019655932542976 := (by unfold dg; (try simp only [IntKind.wrap_u64, IntKind.wrap_i64] at *); (try simp only [hi, lo] at *); (try simp (disch := omega) only [Int.fdiv_eq_ediv_of_nonneg, Int.tmod_eq_emod_of_nonneg] at *); first | done | omega); have e11 : 0 = dg x0 95780971304118053647396689196894323976171195136475136 := (by unfold dg; (try simp only [IntKind.wrap_u64, IntKind.wrap_i64] at *); (try simp only [hi, lo] at *); (try simp (disch := omega) only [Int.fdiv_eq_ediv_of_nonneg, Int.tmod_eq_emod_of_nonneg] at *); first | done | omega); rw [if_neg hs, decide_eq_false hs]; show Value.agg #[Value.bool false, Value.int .i64 (Int.tmod (Int.fdiv x0 1) 65536), Value.int .i64 (Int.tmod (Int.fdiv x0 65536) 65536), Value.int .i64 (Int.tmod (Int.fdiv x0 4294967296) 65536), Value.int .i64 (Int.fdiv x0 281474976710656), Value.int .i64 0, Value.int .i64 0, Value.int .i64 0, Value.int .i64 0, Value.int .i64 0, Value.int .i64 0, Value.int .i64 0, Value.int .i64 0] = Value.agg #[Value.bool false, Value.int .i64 (dg x0 1), Value.int .i64 (dg x0 65536), Value.int .i64 (dg x0 4294967296), Value.int .i64 (dg x0 281474976710656), Value.int .i64 (dg x0 18446744073709551616), Value.int .i64 (dg x0 1208925819614629174706176), Value.int .i64 (dg x0 79228162514264337593543950336), Value.int .i64 (dg x0 5192296858534827628530496329220096), Value.int .i64 (dg x0 340282366920938463463374607431768211456), Value.int .i64 (dg x0 22300745198530623141535718272648361505980416), Value.int .i64 (dg x0 1461501637330902918203684832716283019655932542976), Value.int .i64 (dg x0 95780971304118053647396689196894323976171195136475136)]; rw [← e0, ← e1, ← e2, ← e3, ← e4, ← e5, ← e6, ← e7, ← e8, ← e9, ← e10, ← e11]
set_option maxHeartbeats 4000000 in
set_option maxRecDepth 100000 in
theorem read_any (x0 : Int) (b0 : (-170141183460469231731687303715884105728) ≤ x0 ∧ x0 ≤ 170141183460469231731687303715884105727) (w : World) (hw : WOk GB w) : Known Tryd.prog 60 ∧ Calls Tryd.prog 60 #[.agg #[.int .i64 (hi x0), .int .u64 (lo x0)]] w (fun e w' => e = .returned (.agg (.bool (decide (x0 < 0)) :: digV (if x0 < 0 then 0 - x0 else x0)).toArray) ∧ Below w.heap.size w w') := by
  refine calls_eq (way_calls3 (ρ := rho [x0]) (run := read_R Tryd.prog) (fun _ => rfl) (by kernel_rfl) (within_get ⟨b0, trivial⟩) gi_ok (fun X hX hG => ct_divided_ok hX hG) rfl rfl (gbApart_one _) ?_ w hw)
  refine way_cut (.cmp .lt (.app 0 (.cons (.var 0) .nil)) (.lit 0)) (fun h0 => ?_) (fun h0 => ?_)
  · skip
    refine way_leaf read_n1 ?_
    refine ⟨rfl, ?_⟩; have hs : x0 < 0 := (by simp only [nm, digL, dgE, dgP, dgP1, List.cons_append, List.nil_append, List.append_nil] at *; (try simp only [hi] at *); omega); have e : 0 - x0 = (340282366920938463463374607431768211456 - ((((((((((((Int.tmod (Int.fdiv (lo x0) 1) 65536) + (65536 * (Int.tmod (Int.fdiv (lo x0) 65536) 65536))) + (4294967296 * (Int.tmod (Int.fdiv (lo x0) 4294967296) 65536))) + (281474976710656 * (Int.fdiv (lo x0) 281474976710656))) + (18446744073709551616 * (Int.tmod (Int.fdiv (IntKind.u64.wrap (hi x0)) 1) 65536))) + (1208925819614629174706176 * (Int.tmod (Int.fdiv (IntKind.u64.wrap (hi x0)) 65536) 65536))) + (79228162514264337593543950336 * (Int.tmod (Int.fdiv (IntKind.u64.wrap (hi x0)) 4294967296) 65536))) + (5192296858534827628530496329220096 * (Int.fdiv (IntKind.u64.wrap (hi x0)) 281474976710656))) + (340282366920938463463374607431768211456 * 0)) + (22300745198530623141535718272648361505980416 * 0)) + (1461501637330902918203684832716283019655932542976 * 0)) + (95780971304118053647396689196894323976171195136475136 * 0))) := (by (try simp only [IntKind.wrap_u64, IntKind.wrap_i64] at *); (try simp only [hi, lo] at *); (try simp (disch := omega) only [Int.fdiv_eq_ediv_of_nonneg, Int.tmod_eq_emod_of_nonneg] at *); first | done | omega); rw [if_pos hs, decide_eq_true hs, e]; rfl
  refine way_leaf read_n2 ?_
  refine ⟨rfl, ?_⟩; have hs : ¬ x0 < 0 := (by simp only [nm, digL, dgE, dgP, dgP1, List.cons_append, List.nil_append, List.append_nil] at *; (try simp only [hi] at *); omega); have e0 : (Int.tmod (Int.fdiv (lo x0) 1) 65536) = dg x0 1 := (by unfold dg; (try simp only [IntKind.wrap_u64, IntKind.wrap_i64] at *); (try simp only [hi, lo] at *); (try simp (disch := omega) only [Int.fdiv_eq_ediv_of_nonneg, Int.tmod_eq_emod_of_nonneg] at *); first | done | omega); have e1 : (Int.tmod (Int.fdiv (lo x0) 65536) 65536) = dg x0 65536 := (by unfold dg; (try simp only [IntKind.wrap_u64, IntKind.wrap_i64] at *); (try simp only [hi, lo] at *); (try simp (disch := omega) only [Int.fdiv_eq_ediv_of_nonneg, Int.tmod_eq_emod_of_nonneg] at *); first | done | omega); have e2 : (Int.tmod (Int.fdiv (lo x0) 4294967296) 65536) = dg x0 4294967296 := (by unfold dg; (try simp only [IntKind.wrap_u64, IntKind.wrap_i64] at *); (try simp only [hi, lo] at *); (try simp (disch := omega) only [Int.fdiv_eq_ediv_of_nonneg, Int.tmod_eq_emod_of_nonneg] at *); first | done | omega); have e3 : (Int.fdiv (lo x0) 281474976710656) = dg x0 281474976710656 := (by unfold dg; (try simp only [IntKind.wrap_u64, IntKind.wrap_i64] at *); (try simp only [hi, lo] at *); (try simp (disch := omega) only [Int.fdiv_eq_ediv_of_nonneg, Int.tmod_eq_emod_of_nonneg] at *); first | done | omega); have e4 : (Int.tmod (Int.fdiv (hi x0) 1) 65536) = dg x0 18446744073709551616 := (by unfold dg; (try simp only [IntKind.wrap_u64, IntKind.wrap_i64] at *); (try simp only [hi, lo] at *); (try simp (disch := omega) only [Int.fdiv_eq_ediv_of_nonneg, Int.tmod_eq_emod_of_nonneg] at *); first | done | omega); have e5 : (Int.tmod (Int.fdiv (hi x0) 65536) 65536) = dg x0 1208925819614629174706176 := (by unfold dg; (try simp only [IntKind.wrap_u64, IntKind.wrap_i64] at *); (try simp only [hi, lo] at *); (try simp (disch := omega) only [Int.fdiv_eq_ediv_of_nonneg, Int.tmod_eq_emod_of_nonneg] at *); first | done | omega); have e6 : (Int.tmod (Int.fdiv (hi x0) 4294967296) 65536) = dg x0 79228162514264337593543950336 := (by unfold dg; (try simp only [IntKind.wrap_u64, IntKind.wrap_i64] at *); (try simp only [hi, lo] at *); (try simp (disch := omega) only [Int.fdiv_eq_ediv_of_nonneg, Int.tmod_eq_emod_of_nonneg] at *); first | done | omega); have e7 : (Int.fdiv (hi x0) 281474976710656) = dg x0 5192296858534827628530496329220096 := (by unfold dg; (try simp only [IntKind.wrap_u64, IntKind.wrap_i64] at *); (try simp only [hi, lo] at *); (try simp (disch := omega) only [Int.fdiv_eq_ediv_of_nonneg, Int.tmod_eq_emod_of_nonneg] at *); first | done | omega); have e8 : 0 = dg x0 340282366920938463463374607431768211456 := (by unfold dg; (try simp only [IntKind.wrap_u64, IntKind.wrap_i64] at *); (try simp only [hi, lo] at *); (try simp (disch := omega) only [Int.fdiv_eq_ediv_of_nonneg, Int.tmod_eq_emod_of_nonneg] at *); first | done | omega); have e9 : 0 = dg x0 22300745198530623141535718272648361505980416 := (by unfold dg; (try simp only [IntKind.wrap_u64, IntKind.wrap_i64] at *); (try simp only [hi, lo] at *); (try simp (disch := omega) only [Int.fdiv_eq_ediv_of_nonneg, Int.tmod_eq_emod_of_nonneg] at *); first | done | omega); have e10 : 0 = dg x0 1461501637330902918203684832716283019655932542976 := (by unfold dg; (try simp only [IntKind.wrap_u64, IntKind.wrap_i64] at *); (try simp only [hi, lo] at *); (try simp (disch := omega) only [Int.fdiv_eq_ediv_of_nonneg, Int.tmod_eq_emod_of_nonneg] at *); first | done | omega); have e11 : 0 = dg x0 95780971304118053647396689196894323976171195136475136 := (by unfold dg; (try simp only [IntKind.wrap_u64, IntKind.wrap_i64] at *); (try simp only [hi, lo] at *); (try simp (disch := omega) only [Int.fdiv_eq_ediv_of_nonneg, Int.tmod_eq_emod_of_nonneg] at *); first | done | omega); rw [if_neg hs, decide_eq_false hs]; show Value.agg #[Value.bool false, Value.int .i64 (Int.tmod (Int.fdiv (lo x0) 1) 65536), Value.int .i64 (Int.tmod (Int.fdiv (lo x0) 65536) 65536), Value.int .i64 (Int.tmod (Int.fdiv (lo x0) 4294967296) 65536), Value.int .i64 (Int.fdiv (lo x0) 281474976710656), Value.int .i64 (Int.tmod (Int.fdiv (hi x0) 1) 65536), Value.int .i64 (Int.tmod (Int.fdiv (hi x0) 65536) 65536), Value.int .i64 (Int.tmod (Int.fdiv (hi x0) 4294967296) 65536), Value.int .i64 (Int.fdiv (hi x0) 281474976710656), Value.int .i64 0, Value.int .i64 0, Value.int .i64 0, Value.int .i64 0] = Value.agg #[Value.bool false, Value.int .i64 (dg x0 1), Value.int .i64 (dg x0 65536), Value.int .i64 (dg x0 4294967296), Value.int .i64 (dg x0 281474976710656), Value.int .i64 (dg x0 18446744073709551616), Value.int .i64 (dg x0 1208925819614629174706176), Value.int .i64 (dg x0 79228162514264337593543950336), Value.int .i64 (dg x0 5192296858534827628530496329220096), Value.int .i64 (dg x0 340282366920938463463374607431768211456), Value.int .i64 (dg x0 22300745198530623141535718272648361505980416), Value.int .i64 (dg x0 1461501637330902918203684832716283019655932542976), Value.int .i64 (dg x0 95780971304118053647396689196894323976171195136475136)]; rw [← e0, ← e1, ← e2, ← e3, ← e4, ← e5, ← e6, ← e7, ← e8, ← e9, ← e10, ← e11]
def tellV (W : Int) : Value := if -170141183460469231731687303715884105728 ≤ W ∧ W ≤ 170141183460469231731687303715884105727 then .tuple #[.agg #[.int .i64 (hi W), .int .u64 (lo W)], .int .i64 0] else .tuple #[.agg #[.int .i64 0, .int .u64 0], .int .i64 11]
set_option maxHeartbeats 4000000 in
set_option maxRecDepth 100000 in
theorem tell_any (x0 x1 : Int) (b0 : 0 ≤ x0 ∧ x0 ≤ 1) (b1 : 0 ≤ x1 ∧ x1 ≤ 6277101735386680763835789423207666416102355444464034512895) (w : World) (hw : WOk GB w) : Known Tryd.prog 53 ∧ Calls Tryd.prog 53 #[.agg (.bool (!decide (x0 = 0)) :: digV x1).toArray] w (fun e w' => e = .returned (tellV (if x0 = 0 then x1 else 0 - x1)) ∧ Below w.heap.size w w') := by
  refine calls_eq (way_calls3 (ρ := rho [x0, x1]) (run := tell_R Tryd.prog) (fun _ => rfl) (by kernel_rfl) (within_get ⟨b0, b1, trivial⟩) gi_ok (fun X hX hG => ct_divided_ok hX hG) rfl rfl (gbApart_one _) ?_ w hw)
  refine way_cut (.cmp .lt (.var 1) (.lit 170141183460469231731687303715884105728)) (fun h0 => ?_) (fun h0 => ?_)
  · skip
    refine way_cut (.cmp .ne (.var 0) (.lit 0)) (fun h1 => ?_) (fun h1 => ?_)
    rotate_left
    · skip
      refine way_leaf tell_n5 ?_
      refine ⟨rfl, ?_⟩; have hw : (if x0 = 0 then x1 else 0 - x1) = x1 := (by simp only [nm, digL, dgE, dgP, dgP1, List.cons_append, List.nil_append, List.append_nil] at *; split <;> omega); have hb : -170141183460469231731687303715884105728 ≤ x1 ∧ x1 ≤ 170141183460469231731687303715884105727 := (by simp only [nm, digL, dgE, dgP, dgP1, List.cons_append, List.nil_append, List.append_nil] at *; omega); unfold tellV; rw [hw, if_pos hb]; have eh : (IntKind.i64.wrap (((((((dg x1 5192296858534827628530496329220096) * 65536) + (dg x1 79228162514264337593543950336)) * 65536) + (dg x1 1208925819614629174706176)) * 65536) + (dg x1 18446744073709551616))) = hi x1 := (by unfold hi; have hx : 0 ≤ x1 ∧ x1 ≤ 340282366920938463463374607431768211455 := (by simp only [nm, digL, dgE, dgP, dgP1, List.cons_append, List.nil_append, List.append_nil] at *; omega); clear h0; have ha := dg_all x1 (by omega) (by omega); have d0 := dg_bd x1 1; have d1 := dg_bd x1 65536; have d2 := dg_bd x1 4294967296; have d3 := dg_bd x1 281474976710656; have d4 := dg_bd x1 18446744073709551616; have d5 := dg_bd x1 1208925819614629174706176; have d6 := dg_bd x1 79228162514264337593543950336; have d7 := dg_bd x1 5192296858534827628530496329220096; have d8 := dg_bd x1 340282366920938463463374607431768211456; have d9 := dg_bd x1 22300745198530623141535718272648361505980416; have d10 := dg_bd x1 1461501637330902918203684832716283019655932542976; have d11 := dg_bd x1 95780971304118053647396689196894323976171195136475136; generalize dg x1 1 = c0 at *; generalize dg x1 65536 = c1 at *; generalize dg x1 4294967296 = c2 at *; generalize dg x1 281474976710656 = c3 at *; generalize dg x1 18446744073709551616 = c4 at *; generalize dg x1 1208925819614629174706176 = c5 at *; generalize dg x1 79228162514264337593543950336 = c6 at *; generalize dg x1 5192296858534827628530496329220096 = c7 at *; generalize dg x1 340282366920938463463374607431768211456 = c8 at *; generalize dg x1 22300745198530623141535718272648361505980416 = c9 at *; generalize dg x1 1461501637330902918203684832716283019655932542976 = c10 at *; generalize dg x1 95780971304118053647396689196894323976171195136475136 = c11 at *; (try simp only [IntKind.wrap_i64]); omega); have el : (((((((dg x1 281474976710656) * 65536) + (dg x1 4294967296)) * 65536) + (dg x1 65536)) * 65536) + (dg x1 1)) = lo x1 := (by unfold lo; have hx : 0 ≤ x1 ∧ x1 ≤ 340282366920938463463374607431768211455 := (by simp only [nm, digL, dgE, dgP, dgP1, List.cons_append, List.nil_append, List.append_nil] at *; omega); clear h0; have ha := dg_all x1 (by omega) (by omega); have d0 := dg_bd x1 1; have d1 := dg_bd x1 65536; have d2 := dg_bd x1 4294967296; have d3 := dg_bd x1 281474976710656; have d4 := dg_bd x1 18446744073709551616; have d5 := dg_bd x1 1208925819614629174706176; have d6 := dg_bd x1 79228162514264337593543950336; have d7 := dg_bd x1 5192296858534827628530496329220096; have d8 := dg_bd x1 340282366920938463463374607431768211456; have d9 := dg_bd x1 22300745198530623141535718272648361505980416; have d10 := dg_bd x1 1461501637330902918203684832716283019655932542976; have d11 := dg_bd x1 95780971304118053647396689196894323976171195136475136; generalize dg x1 1 = c0 at *; generalize dg x1 65536 = c1 at *; generalize dg x1 4294967296 = c2 at *; generalize dg x1 281474976710656 = c3 at *; generalize dg x1 18446744073709551616 = c4 at *; generalize dg x1 1208925819614629174706176 = c5 at *; generalize dg x1 79228162514264337593543950336 = c6 at *; generalize dg x1 5192296858534827628530496329220096 = c7 at *; generalize dg x1 340282366920938463463374607431768211456 = c8 at *; generalize dg x1 22300745198530623141535718272648361505980416 = c9 at *; generalize dg x1 1461501637330902918203684832716283019655932542976 = c10 at *; generalize dg x1 95780971304118053647396689196894323976171195136475136 = c11 at *; (try simp only [IntKind.wrap_i64]); omega); show Value.tuple #[Value.agg #[Value.int .i64 (IntKind.i64.wrap (((((((dg x1 5192296858534827628530496329220096) * 65536) + (dg x1 79228162514264337593543950336)) * 65536) + (dg x1 1208925819614629174706176)) * 65536) + (dg x1 18446744073709551616))), Value.int .u64 (((((((dg x1 281474976710656) * 65536) + (dg x1 4294967296)) * 65536) + (dg x1 65536)) * 65536) + (dg x1 1))], Value.int .i64 0] = _; rw [eh, el]
    refine way_cut (.cmp .ne (.var 1) (.lit 0)) (fun h2 => ?_) (fun h2 => ?_)
    · skip
      refine way_leaf tell_n3 ?_
      refine ⟨rfl, ?_⟩; have hw : (if x0 = 0 then x1 else 0 - x1) = (0 - x1) := (by simp only [nm, digL, dgE, dgP, dgP1, List.cons_append, List.nil_append, List.append_nil] at *; split <;> omega); have hb : -170141183460469231731687303715884105728 ≤ (0 - x1) ∧ (0 - x1) ≤ 170141183460469231731687303715884105727 := (by simp only [nm, digL, dgE, dgP, dgP1, List.cons_append, List.nil_append, List.append_nil] at *; omega); unfold tellV; rw [hw, if_pos hb]; have eh : (IntKind.i64.wrap (((((((dg (340282366920938463463374607431768211456 - x1) 5192296858534827628530496329220096) * 65536) + (dg (340282366920938463463374607431768211456 - x1) 79228162514264337593543950336)) * 65536) + (dg (340282366920938463463374607431768211456 - x1) 1208925819614629174706176)) * 65536) + (dg (340282366920938463463374607431768211456 - x1) 18446744073709551616))) = hi (0 - x1) := (by unfold hi; have hx : 0 ≤ (340282366920938463463374607431768211456 - x1) ∧ (340282366920938463463374607431768211456 - x1) ≤ 340282366920938463463374607431768211455 := (by simp only [nm, digL, dgE, dgP, dgP1, List.cons_append, List.nil_append, List.append_nil] at *; omega); clear h0; have ha := dg_all (340282366920938463463374607431768211456 - x1) (by omega) (by omega); have d0 := dg_bd (340282366920938463463374607431768211456 - x1) 1; have d1 := dg_bd (340282366920938463463374607431768211456 - x1) 65536; have d2 := dg_bd (340282366920938463463374607431768211456 - x1) 4294967296; have d3 := dg_bd (340282366920938463463374607431768211456 - x1) 281474976710656; have d4 := dg_bd (340282366920938463463374607431768211456 - x1) 18446744073709551616; have d5 := dg_bd (340282366920938463463374607431768211456 - x1) 1208925819614629174706176; have d6 := dg_bd (340282366920938463463374607431768211456 - x1) 79228162514264337593543950336; have d7 := dg_bd (340282366920938463463374607431768211456 - x1) 5192296858534827628530496329220096; have d8 := dg_bd (340282366920938463463374607431768211456 - x1) 340282366920938463463374607431768211456; have d9 := dg_bd (340282366920938463463374607431768211456 - x1) 22300745198530623141535718272648361505980416; have d10 := dg_bd (340282366920938463463374607431768211456 - x1) 1461501637330902918203684832716283019655932542976; have d11 := dg_bd (340282366920938463463374607431768211456 - x1) 95780971304118053647396689196894323976171195136475136; generalize dg (340282366920938463463374607431768211456 - x1) 1 = c0 at *; generalize dg (340282366920938463463374607431768211456 - x1) 65536 = c1 at *; generalize dg (340282366920938463463374607431768211456 - x1) 4294967296 = c2 at *; generalize dg (340282366920938463463374607431768211456 - x1) 281474976710656 = c3 at *; generalize dg (340282366920938463463374607431768211456 - x1) 18446744073709551616 = c4 at *; generalize dg (340282366920938463463374607431768211456 - x1) 1208925819614629174706176 = c5 at *; generalize dg (340282366920938463463374607431768211456 - x1) 79228162514264337593543950336 = c6 at *; generalize dg (340282366920938463463374607431768211456 - x1) 5192296858534827628530496329220096 = c7 at *; generalize dg (340282366920938463463374607431768211456 - x1) 340282366920938463463374607431768211456 = c8 at *; generalize dg (340282366920938463463374607431768211456 - x1) 22300745198530623141535718272648361505980416 = c9 at *; generalize dg (340282366920938463463374607431768211456 - x1) 1461501637330902918203684832716283019655932542976 = c10 at *; generalize dg (340282366920938463463374607431768211456 - x1) 95780971304118053647396689196894323976171195136475136 = c11 at *; (try simp only [IntKind.wrap_i64]); omega); have el : (((((((dg (340282366920938463463374607431768211456 - x1) 281474976710656) * 65536) + (dg (340282366920938463463374607431768211456 - x1) 4294967296)) * 65536) + (dg (340282366920938463463374607431768211456 - x1) 65536)) * 65536) + (dg (340282366920938463463374607431768211456 - x1) 1)) = lo (0 - x1) := (by unfold lo; have hx : 0 ≤ (340282366920938463463374607431768211456 - x1) ∧ (340282366920938463463374607431768211456 - x1) ≤ 340282366920938463463374607431768211455 := (by simp only [nm, digL, dgE, dgP, dgP1, List.cons_append, List.nil_append, List.append_nil] at *; omega); clear h0; have ha := dg_all (340282366920938463463374607431768211456 - x1) (by omega) (by omega); have d0 := dg_bd (340282366920938463463374607431768211456 - x1) 1; have d1 := dg_bd (340282366920938463463374607431768211456 - x1) 65536; have d2 := dg_bd (340282366920938463463374607431768211456 - x1) 4294967296; have d3 := dg_bd (340282366920938463463374607431768211456 - x1) 281474976710656; have d4 := dg_bd (340282366920938463463374607431768211456 - x1) 18446744073709551616; have d5 := dg_bd (340282366920938463463374607431768211456 - x1) 1208925819614629174706176; have d6 := dg_bd (340282366920938463463374607431768211456 - x1) 79228162514264337593543950336; have d7 := dg_bd (340282366920938463463374607431768211456 - x1) 5192296858534827628530496329220096; have d8 := dg_bd (340282366920938463463374607431768211456 - x1) 340282366920938463463374607431768211456; have d9 := dg_bd (340282366920938463463374607431768211456 - x1) 22300745198530623141535718272648361505980416; have d10 := dg_bd (340282366920938463463374607431768211456 - x1) 1461501637330902918203684832716283019655932542976; have d11 := dg_bd (340282366920938463463374607431768211456 - x1) 95780971304118053647396689196894323976171195136475136; generalize dg (340282366920938463463374607431768211456 - x1) 1 = c0 at *; generalize dg (340282366920938463463374607431768211456 - x1) 65536 = c1 at *; generalize dg (340282366920938463463374607431768211456 - x1) 4294967296 = c2 at *; generalize dg (340282366920938463463374607431768211456 - x1) 281474976710656 = c3 at *; generalize dg (340282366920938463463374607431768211456 - x1) 18446744073709551616 = c4 at *; generalize dg (340282366920938463463374607431768211456 - x1) 1208925819614629174706176 = c5 at *; generalize dg (340282366920938463463374607431768211456 - x1) 79228162514264337593543950336 = c6 at *; generalize dg (340282366920938463463374607431768211456 - x1) 5192296858534827628530496329220096 = c7 at *; generalize dg (340282366920938463463374607431768211456 - x1) 340282366920938463463374607431768211456 = c8 at *; generalize dg (340282366920938463463374607431768211456 - x1) 22300745198530623141535718272648361505980416 = c9 at *; generalize dg (340282366920938463463374607431768211456 - x1) 1461501637330902918203684832716283019655932542976 = c10 at *; generalize dg (340282366920938463463374607431768211456 - x1) 95780971304118053647396689196894323976171195136475136 = c11 at *; (try simp only [IntKind.wrap_i64]); omega); show Value.tuple #[Value.agg #[Value.int .i64 (IntKind.i64.wrap (((((((dg (340282366920938463463374607431768211456 - x1) 5192296858534827628530496329220096) * 65536) + (dg (340282366920938463463374607431768211456 - x1) 79228162514264337593543950336)) * 65536) + (dg (340282366920938463463374607431768211456 - x1) 1208925819614629174706176)) * 65536) + (dg (340282366920938463463374607431768211456 - x1) 18446744073709551616))), Value.int .u64 (((((((dg (340282366920938463463374607431768211456 - x1) 281474976710656) * 65536) + (dg (340282366920938463463374607431768211456 - x1) 4294967296)) * 65536) + (dg (340282366920938463463374607431768211456 - x1) 65536)) * 65536) + (dg (340282366920938463463374607431768211456 - x1) 1))], Value.int .i64 0] = _; rw [eh, el]
    refine way_leaf tell_n4 ?_
    refine ⟨rfl, ?_⟩; have hw : (if x0 = 0 then x1 else 0 - x1) = x1 := (by simp only [nm, digL, dgE, dgP, dgP1, List.cons_append, List.nil_append, List.append_nil] at *; split <;> omega); have hb : -170141183460469231731687303715884105728 ≤ x1 ∧ x1 ≤ 170141183460469231731687303715884105727 := (by simp only [nm, digL, dgE, dgP, dgP1, List.cons_append, List.nil_append, List.append_nil] at *; omega); unfold tellV; rw [hw, if_pos hb]; have eh : (IntKind.i64.wrap (((((((dg x1 5192296858534827628530496329220096) * 65536) + (dg x1 79228162514264337593543950336)) * 65536) + (dg x1 1208925819614629174706176)) * 65536) + (dg x1 18446744073709551616))) = hi x1 := (by unfold hi; have hx : 0 ≤ x1 ∧ x1 ≤ 340282366920938463463374607431768211455 := (by simp only [nm, digL, dgE, dgP, dgP1, List.cons_append, List.nil_append, List.append_nil] at *; omega); clear h0; have ha := dg_all x1 (by omega) (by omega); have d0 := dg_bd x1 1; have d1 := dg_bd x1 65536; have d2 := dg_bd x1 4294967296; have d3 := dg_bd x1 281474976710656; have d4 := dg_bd x1 18446744073709551616; have d5 := dg_bd x1 1208925819614629174706176; have d6 := dg_bd x1 79228162514264337593543950336; have d7 := dg_bd x1 5192296858534827628530496329220096; have d8 := dg_bd x1 340282366920938463463374607431768211456; have d9 := dg_bd x1 22300745198530623141535718272648361505980416; have d10 := dg_bd x1 1461501637330902918203684832716283019655932542976; have d11 := dg_bd x1 95780971304118053647396689196894323976171195136475136; generalize dg x1 1 = c0 at *; generalize dg x1 65536 = c1 at *; generalize dg x1 4294967296 = c2 at *; generalize dg x1 281474976710656 = c3 at *; generalize dg x1 18446744073709551616 = c4 at *; generalize dg x1 1208925819614629174706176 = c5 at *; generalize dg x1 79228162514264337593543950336 = c6 at *; generalize dg x1 5192296858534827628530496329220096 = c7 at *; generalize dg x1 340282366920938463463374607431768211456 = c8 at *; generalize dg x1 22300745198530623141535718272648361505980416 = c9 at *; generalize dg x1 1461501637330902918203684832716283019655932542976 = c10 at *; generalize dg x1 95780971304118053647396689196894323976171195136475136 = c11 at *; (try simp only [IntKind.wrap_i64]); omega); have el : (((((((dg x1 281474976710656) * 65536) + (dg x1 4294967296)) * 65536) + (dg x1 65536)) * 65536) + (dg x1 1)) = lo x1 := (by unfold lo; have hx : 0 ≤ x1 ∧ x1 ≤ 340282366920938463463374607431768211455 := (by simp only [nm, digL, dgE, dgP, dgP1, List.cons_append, List.nil_append, List.append_nil] at *; omega); clear h0; have ha := dg_all x1 (by omega) (by omega); have d0 := dg_bd x1 1; have d1 := dg_bd x1 65536; have d2 := dg_bd x1 4294967296; have d3 := dg_bd x1 281474976710656; have d4 := dg_bd x1 18446744073709551616; have d5 := dg_bd x1 1208925819614629174706176; have d6 := dg_bd x1 79228162514264337593543950336; have d7 := dg_bd x1 5192296858534827628530496329220096; have d8 := dg_bd x1 340282366920938463463374607431768211456; have d9 := dg_bd x1 22300745198530623141535718272648361505980416; have d10 := dg_bd x1 1461501637330902918203684832716283019655932542976; have d11 := dg_bd x1 95780971304118053647396689196894323976171195136475136; generalize dg x1 1 = c0 at *; generalize dg x1 65536 = c1 at *; generalize dg x1 4294967296 = c2 at *; generalize dg x1 281474976710656 = c3 at *; generalize dg x1 18446744073709551616 = c4 at *; generalize dg x1 1208925819614629174706176 = c5 at *; generalize dg x1 79228162514264337593543950336 = c6 at *; generalize dg x1 5192296858534827628530496329220096 = c7 at *; generalize dg x1 340282366920938463463374607431768211456 = c8 at *; generalize dg x1 22300745198530623141535718272648361505980416 = c9 at *; generalize dg x1 1461501637330902918203684832716283019655932542976 = c10 at *; generalize dg x1 95780971304118053647396689196894323976171195136475136 = c11 at *; (try simp only [IntKind.wrap_i64]); omega); show Value.tuple #[Value.agg #[Value.int .i64 (IntKind.i64.wrap (((((((dg x1 5192296858534827628530496329220096) * 65536) + (dg x1 79228162514264337593543950336)) * 65536) + (dg x1 1208925819614629174706176)) * 65536) + (dg x1 18446744073709551616))), Value.int .u64 (((((((dg x1 281474976710656) * 65536) + (dg x1 4294967296)) * 65536) + (dg x1 65536)) * 65536) + (dg x1 1))], Value.int .i64 0] = _; rw [eh, el]
  refine way_cut (.cmp .lt (.lit 170141183460469231731687303715884105728) (.var 1)) (fun h1 => ?_) (fun h1 => ?_)
  · skip
    refine way_leaf tell_n7 ?_
    refine ⟨rfl, ?_⟩; simp only [nm, digL, dgE, dgP, dgP1, List.cons_append, List.nil_append, List.append_nil] at *; unfold tellV; rw [if_neg (by split <;> omega)] <;> rfl
  refine way_cut (.cmp .eq (.var 0) (.lit 0)) (fun h2 => ?_) (fun h2 => ?_)
  · skip
    refine way_leaf tell_n9 ?_
    refine ⟨rfl, ?_⟩; simp only [nm, digL, dgE, dgP, dgP1, List.cons_append, List.nil_append, List.append_nil] at *; unfold tellV; rw [if_neg (by split <;> omega)] <;> rfl
  refine way_leaf tell_n10 ?_
  refine ⟨rfl, ?_⟩; have hw : (if x0 = 0 then x1 else 0 - x1) = (0 - x1) := (by simp only [nm, digL, dgE, dgP, dgP1, List.cons_append, List.nil_append, List.append_nil] at *; split <;> omega); have hb : -170141183460469231731687303715884105728 ≤ (0 - x1) ∧ (0 - x1) ≤ 170141183460469231731687303715884105727 := (by simp only [nm, digL, dgE, dgP, dgP1, List.cons_append, List.nil_append, List.append_nil] at *; omega); unfold tellV; rw [hw, if_pos hb]; have eh : (IntKind.i64.wrap (((((((dg (340282366920938463463374607431768211456 - x1) 5192296858534827628530496329220096) * 65536) + (dg (340282366920938463463374607431768211456 - x1) 79228162514264337593543950336)) * 65536) + (dg (340282366920938463463374607431768211456 - x1) 1208925819614629174706176)) * 65536) + (dg (340282366920938463463374607431768211456 - x1) 18446744073709551616))) = hi (0 - x1) := (by unfold hi; have hx : 0 ≤ (340282366920938463463374607431768211456 - x1) ∧ (340282366920938463463374607431768211456 - x1) ≤ 340282366920938463463374607431768211455 := (by simp only [nm, digL, dgE, dgP, dgP1, List.cons_append, List.nil_append, List.append_nil] at *; omega); clear h0; have ha := dg_all (340282366920938463463374607431768211456 - x1) (by omega) (by omega); have d0 := dg_bd (340282366920938463463374607431768211456 - x1) 1; have d1 := dg_bd (340282366920938463463374607431768211456 - x1) 65536; have d2 := dg_bd (340282366920938463463374607431768211456 - x1) 4294967296; have d3 := dg_bd (340282366920938463463374607431768211456 - x1) 281474976710656; have d4 := dg_bd (340282366920938463463374607431768211456 - x1) 18446744073709551616; have d5 := dg_bd (340282366920938463463374607431768211456 - x1) 1208925819614629174706176; have d6 := dg_bd (340282366920938463463374607431768211456 - x1) 79228162514264337593543950336; have d7 := dg_bd (340282366920938463463374607431768211456 - x1) 5192296858534827628530496329220096; have d8 := dg_bd (340282366920938463463374607431768211456 - x1) 340282366920938463463374607431768211456; have d9 := dg_bd (340282366920938463463374607431768211456 - x1) 22300745198530623141535718272648361505980416; have d10 := dg_bd (340282366920938463463374607431768211456 - x1) 1461501637330902918203684832716283019655932542976; have d11 := dg_bd (340282366920938463463374607431768211456 - x1) 95780971304118053647396689196894323976171195136475136; generalize dg (340282366920938463463374607431768211456 - x1) 1 = c0 at *; generalize dg (340282366920938463463374607431768211456 - x1) 65536 = c1 at *; generalize dg (340282366920938463463374607431768211456 - x1) 4294967296 = c2 at *; generalize dg (340282366920938463463374607431768211456 - x1) 281474976710656 = c3 at *; generalize dg (340282366920938463463374607431768211456 - x1) 18446744073709551616 = c4 at *; generalize dg (340282366920938463463374607431768211456 - x1) 1208925819614629174706176 = c5 at *; generalize dg (340282366920938463463374607431768211456 - x1) 79228162514264337593543950336 = c6 at *; generalize dg (340282366920938463463374607431768211456 - x1) 5192296858534827628530496329220096 = c7 at *; generalize dg (340282366920938463463374607431768211456 - x1) 340282366920938463463374607431768211456 = c8 at *; generalize dg (340282366920938463463374607431768211456 - x1) 22300745198530623141535718272648361505980416 = c9 at *; generalize dg (340282366920938463463374607431768211456 - x1) 1461501637330902918203684832716283019655932542976 = c10 at *; generalize dg (340282366920938463463374607431768211456 - x1) 95780971304118053647396689196894323976171195136475136 = c11 at *; (try simp only [IntKind.wrap_i64]); omega); have el : (((((((dg (340282366920938463463374607431768211456 - x1) 281474976710656) * 65536) + (dg (340282366920938463463374607431768211456 - x1) 4294967296)) * 65536) + (dg (340282366920938463463374607431768211456 - x1) 65536)) * 65536) + (dg (340282366920938463463374607431768211456 - x1) 1)) = lo (0 - x1) := (by unfold lo; have hx : 0 ≤ (340282366920938463463374607431768211456 - x1) ∧ (340282366920938463463374607431768211456 - x1) ≤ 340282366920938463463374607431768211455 := (by simp only [nm, digL, dgE, dgP, dgP1, List.cons_append, List.nil_append, List.append_nil] at *; omega); clear h0; have ha := dg_all (340282366920938463463374607431768211456 - x1) (by omega) (by omega); have d0 := dg_bd (340282366920938463463374607431768211456 - x1) 1; have d1 := dg_bd (340282366920938463463374607431768211456 - x1) 65536; have d2 := dg_bd (340282366920938463463374607431768211456 - x1) 4294967296; have d3 := dg_bd (340282366920938463463374607431768211456 - x1) 281474976710656; have d4 := dg_bd (340282366920938463463374607431768211456 - x1) 18446744073709551616; have d5 := dg_bd (340282366920938463463374607431768211456 - x1) 1208925819614629174706176; have d6 := dg_bd (340282366920938463463374607431768211456 - x1) 79228162514264337593543950336; have d7 := dg_bd (340282366920938463463374607431768211456 - x1) 5192296858534827628530496329220096; have d8 := dg_bd (340282366920938463463374607431768211456 - x1) 340282366920938463463374607431768211456; have d9 := dg_bd (340282366920938463463374607431768211456 - x1) 22300745198530623141535718272648361505980416; have d10 := dg_bd (340282366920938463463374607431768211456 - x1) 1461501637330902918203684832716283019655932542976; have d11 := dg_bd (340282366920938463463374607431768211456 - x1) 95780971304118053647396689196894323976171195136475136; generalize dg (340282366920938463463374607431768211456 - x1) 1 = c0 at *; generalize dg (340282366920938463463374607431768211456 - x1) 65536 = c1 at *; generalize dg (340282366920938463463374607431768211456 - x1) 4294967296 = c2 at *; generalize dg (340282366920938463463374607431768211456 - x1) 281474976710656 = c3 at *; generalize dg (340282366920938463463374607431768211456 - x1) 18446744073709551616 = c4 at *; generalize dg (340282366920938463463374607431768211456 - x1) 1208925819614629174706176 = c5 at *; generalize dg (340282366920938463463374607431768211456 - x1) 79228162514264337593543950336 = c6 at *; generalize dg (340282366920938463463374607431768211456 - x1) 5192296858534827628530496329220096 = c7 at *; generalize dg (340282366920938463463374607431768211456 - x1) 340282366920938463463374607431768211456 = c8 at *; generalize dg (340282366920938463463374607431768211456 - x1) 22300745198530623141535718272648361505980416 = c9 at *; generalize dg (340282366920938463463374607431768211456 - x1) 1461501637330902918203684832716283019655932542976 = c10 at *; generalize dg (340282366920938463463374607431768211456 - x1) 95780971304118053647396689196894323976171195136475136 = c11 at *; (try simp only [IntKind.wrap_i64]); omega); show Value.tuple #[Value.agg #[Value.int .i64 (IntKind.i64.wrap (((((((dg (340282366920938463463374607431768211456 - x1) 5192296858534827628530496329220096) * 65536) + (dg (340282366920938463463374607431768211456 - x1) 79228162514264337593543950336)) * 65536) + (dg (340282366920938463463374607431768211456 - x1) 1208925819614629174706176)) * 65536) + (dg (340282366920938463463374607431768211456 - x1) 18446744073709551616))), Value.int .u64 (((((((dg (340282366920938463463374607431768211456 - x1) 281474976710656) * 65536) + (dg (340282366920938463463374607431768211456 - x1) 4294967296)) * 65536) + (dg (340282366920938463463374607431768211456 - x1) 65536)) * 65536) + (dg (340282366920938463463374607431768211456 - x1) 1))], Value.int .i64 0] = _; rw [eh, el]
end Go.Proofs.YtnffpaenalccaaaDoor
set_option maxRecDepth 100000
namespace Go.Proofs.YtnffpaenalccaaaDoor
open Go Go.RowKit Sx Wi
def nearest_R (P : Program) (fs : List B) : Res SV := withCtx G GI [(0, 1), (0, 1532495540865888858358347027150309183618739122183602176), (0, 1), (1, 1532495540865888858358347027150309183618739122183602176)] fs (fun X => exFun P X GB ct_divided 3000 51 [.agg (.bool (.cmp .ne (.var 0) (.lit 0)) :: digL (.var 1)), .agg (.bool (.cmp .ne (.var 2) (.lit 0)) :: digL (.var 3))])
def nearest_f0 : List B := []
def nearest_b0 : B := (.cmp .ne (.var 2) (.lit 0))
def nearest_f1 : List B := grow nearest_b0 ++ nearest_f0
def nearest_b1 : B := (.cmp .eq (.var 0) (.lit 0))
def nearest_f2 : List B := grow nearest_b1 ++ nearest_f1
def nearest_b2 : B := (.cmp .lt (.op .add (.var 1) (.var 1)) (.var 3))
def nearest_f3 : List B := grow nearest_b2 ++ nearest_f2
def nearest_b3 : B := (.cmp .le (.lit 0) (.op .sub (.var 3) (.op .add (.var 1) (.var 1))))
def nearest_f4 : List B := grow nearest_b3 ++ nearest_f3
def nearest_f5 : List B := grow (B.neg nearest_b3) ++ nearest_f3
def nearest_f6 : List B := grow (B.neg nearest_b2) ++ nearest_f2
def nearest_b6 : B := (.cmp .lt (.var 3) (.op .add (.var 1) (.var 1)))
def nearest_f7 : List B := grow nearest_b6 ++ nearest_f6
def nearest_b7 : B := (.cmp .le (.lit 0) (.op .sub (.op .add (.var 1) (.var 1)) (.var 3)))
def nearest_f8 : List B := grow nearest_b7 ++ nearest_f7
def nearest_b8 : B := (.cmp .ne (.app 30 (.cons (.op .rem (.op .sub (.op .add (.var 1) (.var 1)) (.var 3)) (.op .add (.var 3) (.var 3))) (.cons (.lit 1) .nil))) (.lit 0))
def nearest_f9 : List B := grow nearest_b8 ++ nearest_f8
def nearest_f10 : List B := grow (B.neg nearest_b8) ++ nearest_f8
def nearest_b10 : B := (.cmp .ne (.app 30 (.cons (.op .rem (.op .sub (.op .add (.var 1) (.var 1)) (.var 3)) (.op .add (.var 3) (.var 3))) (.cons (.lit 65536) .nil))) (.lit 0))
def nearest_f11 : List B := grow nearest_b10 ++ nearest_f10
def nearest_f12 : List B := grow (B.neg nearest_b10) ++ nearest_f10
def nearest_b12 : B := (.cmp .ne (.app 30 (.cons (.op .rem (.op .sub (.op .add (.var 1) (.var 1)) (.var 3)) (.op .add (.var 3) (.var 3))) (.cons (.lit 4294967296) .nil))) (.lit 0))
def nearest_f13 : List B := grow nearest_b12 ++ nearest_f12
def nearest_f14 : List B := grow (B.neg nearest_b12) ++ nearest_f12
def nearest_b14 : B := (.cmp .ne (.app 30 (.cons (.op .rem (.op .sub (.op .add (.var 1) (.var 1)) (.var 3)) (.op .add (.var 3) (.var 3))) (.cons (.lit 281474976710656) .nil))) (.lit 0))
def nearest_f15 : List B := grow nearest_b14 ++ nearest_f14
def nearest_f16 : List B := grow (B.neg nearest_b14) ++ nearest_f14
def nearest_b16 : B := (.cmp .ne (.app 30 (.cons (.op .rem (.op .sub (.op .add (.var 1) (.var 1)) (.var 3)) (.op .add (.var 3) (.var 3))) (.cons (.lit 18446744073709551616) .nil))) (.lit 0))
def nearest_f17 : List B := grow nearest_b16 ++ nearest_f16
def nearest_f18 : List B := grow (B.neg nearest_b16) ++ nearest_f16
def nearest_b18 : B := (.cmp .ne (.app 30 (.cons (.op .rem (.op .sub (.op .add (.var 1) (.var 1)) (.var 3)) (.op .add (.var 3) (.var 3))) (.cons (.lit 1208925819614629174706176) .nil))) (.lit 0))
def nearest_f19 : List B := grow nearest_b18 ++ nearest_f18
def nearest_f20 : List B := grow (B.neg nearest_b18) ++ nearest_f18
def nearest_b20 : B := (.cmp .ne (.app 30 (.cons (.op .rem (.op .sub (.op .add (.var 1) (.var 1)) (.var 3)) (.op .add (.var 3) (.var 3))) (.cons (.lit 79228162514264337593543950336) .nil))) (.lit 0))
def nearest_f21 : List B := grow nearest_b20 ++ nearest_f20
def nearest_f22 : List B := grow (B.neg nearest_b20) ++ nearest_f20
def nearest_b22 : B := (.cmp .ne (.app 30 (.cons (.op .rem (.op .sub (.op .add (.var 1) (.var 1)) (.var 3)) (.op .add (.var 3) (.var 3))) (.cons (.lit 5192296858534827628530496329220096) .nil))) (.lit 0))
def nearest_f23 : List B := grow nearest_b22 ++ nearest_f22
def nearest_f24 : List B := grow (B.neg nearest_b22) ++ nearest_f22
def nearest_b24 : B := (.cmp .ne (.app 30 (.cons (.op .rem (.op .sub (.op .add (.var 1) (.var 1)) (.var 3)) (.op .add (.var 3) (.var 3))) (.cons (.lit 340282366920938463463374607431768211456) .nil))) (.lit 0))
def nearest_f25 : List B := grow nearest_b24 ++ nearest_f24
def nearest_f26 : List B := grow (B.neg nearest_b24) ++ nearest_f24
def nearest_b26 : B := (.cmp .ne (.app 30 (.cons (.op .rem (.op .sub (.op .add (.var 1) (.var 1)) (.var 3)) (.op .add (.var 3) (.var 3))) (.cons (.lit 22300745198530623141535718272648361505980416) .nil))) (.lit 0))
def nearest_f27 : List B := grow nearest_b26 ++ nearest_f26
def nearest_f28 : List B := grow (B.neg nearest_b26) ++ nearest_f26
def nearest_b28 : B := (.cmp .ne (.app 30 (.cons (.op .rem (.op .sub (.op .add (.var 1) (.var 1)) (.var 3)) (.op .add (.var 3) (.var 3))) (.cons (.lit 1461501637330902918203684832716283019655932542976) .nil))) (.lit 0))
def nearest_f29 : List B := grow nearest_b28 ++ nearest_f28
def nearest_f30 : List B := grow (B.neg nearest_b28) ++ nearest_f28
def nearest_b30 : B := (.cmp .ne (.app 30 (.cons (.op .rem (.op .sub (.op .add (.var 1) (.var 1)) (.var 3)) (.op .add (.var 3) (.var 3))) (.cons (.lit 95780971304118053647396689196894323976171195136475136) .nil))) (.lit 0))
def nearest_f31 : List B := grow nearest_b30 ++ nearest_f30
def nearest_f32 : List B := grow (B.neg nearest_b30) ++ nearest_f30
def nearest_f33 : List B := grow (B.neg nearest_b7) ++ nearest_f7
def nearest_f34 : List B := grow (B.neg nearest_b6) ++ nearest_f6
def nearest_b34 : B := (.cmp .le (.lit 0) (.op .sub (.op .add (.var 1) (.var 1)) (.var 3)))
def nearest_f35 : List B := grow nearest_b34 ++ nearest_f34
def nearest_b35 : B := (.cmp .ne (.app 30 (.cons (.op .rem (.op .sub (.op .add (.var 1) (.var 1)) (.var 3)) (.op .add (.var 3) (.var 3))) (.cons (.lit 1) .nil))) (.lit 0))
def nearest_f36 : List B := grow nearest_b35 ++ nearest_f35
def nearest_f37 : List B := grow (B.neg nearest_b35) ++ nearest_f35
def nearest_b37 : B := (.cmp .ne (.app 30 (.cons (.op .rem (.op .sub (.op .add (.var 1) (.var 1)) (.var 3)) (.op .add (.var 3) (.var 3))) (.cons (.lit 65536) .nil))) (.lit 0))
def nearest_f38 : List B := grow nearest_b37 ++ nearest_f37
def nearest_f39 : List B := grow (B.neg nearest_b37) ++ nearest_f37
def nearest_b39 : B := (.cmp .ne (.app 30 (.cons (.op .rem (.op .sub (.op .add (.var 1) (.var 1)) (.var 3)) (.op .add (.var 3) (.var 3))) (.cons (.lit 4294967296) .nil))) (.lit 0))
def nearest_f40 : List B := grow nearest_b39 ++ nearest_f39
def nearest_f41 : List B := grow (B.neg nearest_b39) ++ nearest_f39
def nearest_b41 : B := (.cmp .ne (.app 30 (.cons (.op .rem (.op .sub (.op .add (.var 1) (.var 1)) (.var 3)) (.op .add (.var 3) (.var 3))) (.cons (.lit 281474976710656) .nil))) (.lit 0))
def nearest_f42 : List B := grow nearest_b41 ++ nearest_f41
def nearest_f43 : List B := grow (B.neg nearest_b41) ++ nearest_f41
def nearest_b43 : B := (.cmp .ne (.app 30 (.cons (.op .rem (.op .sub (.op .add (.var 1) (.var 1)) (.var 3)) (.op .add (.var 3) (.var 3))) (.cons (.lit 18446744073709551616) .nil))) (.lit 0))
def nearest_f44 : List B := grow nearest_b43 ++ nearest_f43
def nearest_f45 : List B := grow (B.neg nearest_b43) ++ nearest_f43
def nearest_b45 : B := (.cmp .ne (.app 30 (.cons (.op .rem (.op .sub (.op .add (.var 1) (.var 1)) (.var 3)) (.op .add (.var 3) (.var 3))) (.cons (.lit 1208925819614629174706176) .nil))) (.lit 0))
def nearest_f46 : List B := grow nearest_b45 ++ nearest_f45
def nearest_f47 : List B := grow (B.neg nearest_b45) ++ nearest_f45
def nearest_b47 : B := (.cmp .ne (.app 30 (.cons (.op .rem (.op .sub (.op .add (.var 1) (.var 1)) (.var 3)) (.op .add (.var 3) (.var 3))) (.cons (.lit 79228162514264337593543950336) .nil))) (.lit 0))
def nearest_f48 : List B := grow nearest_b47 ++ nearest_f47
def nearest_f49 : List B := grow (B.neg nearest_b47) ++ nearest_f47
def nearest_b49 : B := (.cmp .ne (.app 30 (.cons (.op .rem (.op .sub (.op .add (.var 1) (.var 1)) (.var 3)) (.op .add (.var 3) (.var 3))) (.cons (.lit 5192296858534827628530496329220096) .nil))) (.lit 0))
def nearest_f50 : List B := grow nearest_b49 ++ nearest_f49
def nearest_f51 : List B := grow (B.neg nearest_b49) ++ nearest_f49
def nearest_b51 : B := (.cmp .ne (.app 30 (.cons (.op .rem (.op .sub (.op .add (.var 1) (.var 1)) (.var 3)) (.op .add (.var 3) (.var 3))) (.cons (.lit 340282366920938463463374607431768211456) .nil))) (.lit 0))
def nearest_f52 : List B := grow nearest_b51 ++ nearest_f51
def nearest_f53 : List B := grow (B.neg nearest_b51) ++ nearest_f51
def nearest_b53 : B := (.cmp .ne (.app 30 (.cons (.op .rem (.op .sub (.op .add (.var 1) (.var 1)) (.var 3)) (.op .add (.var 3) (.var 3))) (.cons (.lit 22300745198530623141535718272648361505980416) .nil))) (.lit 0))
def nearest_f54 : List B := grow nearest_b53 ++ nearest_f53
def nearest_f55 : List B := grow (B.neg nearest_b53) ++ nearest_f53
def nearest_b55 : B := (.cmp .ne (.app 30 (.cons (.op .rem (.op .sub (.op .add (.var 1) (.var 1)) (.var 3)) (.op .add (.var 3) (.var 3))) (.cons (.lit 1461501637330902918203684832716283019655932542976) .nil))) (.lit 0))
def nearest_f56 : List B := grow nearest_b55 ++ nearest_f55
def nearest_f57 : List B := grow (B.neg nearest_b55) ++ nearest_f55
def nearest_b57 : B := (.cmp .ne (.app 30 (.cons (.op .rem (.op .sub (.op .add (.var 1) (.var 1)) (.var 3)) (.op .add (.var 3) (.var 3))) (.cons (.lit 95780971304118053647396689196894323976171195136475136) .nil))) (.lit 0))
def nearest_f58 : List B := grow nearest_b57 ++ nearest_f57
def nearest_f59 : List B := grow (B.neg nearest_b57) ++ nearest_f57
def nearest_f60 : List B := grow (B.neg nearest_b34) ++ nearest_f34
def nearest_f61 : List B := grow (B.neg nearest_b1) ++ nearest_f1
def nearest_f62 : List B := grow (B.neg nearest_b0) ++ nearest_f0
def nearest_b62 : B := (.cmp .ne (.var 0) (.lit 0))
def nearest_f63 : List B := grow nearest_b62 ++ nearest_f62
def nearest_b63 : B := (.cmp .lt (.op .add (.var 1) (.var 1)) (.var 3))
def nearest_f64 : List B := grow nearest_b63 ++ nearest_f63
def nearest_b64 : B := (.cmp .le (.lit 0) (.op .sub (.var 3) (.op .add (.var 1) (.var 1))))
def nearest_f65 : List B := grow nearest_b64 ++ nearest_f64
def nearest_f66 : List B := grow (B.neg nearest_b64) ++ nearest_f64
def nearest_f67 : List B := grow (B.neg nearest_b63) ++ nearest_f63
def nearest_b67 : B := (.cmp .lt (.var 3) (.op .add (.var 1) (.var 1)))
def nearest_f68 : List B := grow nearest_b67 ++ nearest_f67
def nearest_b68 : B := (.cmp .le (.lit 0) (.op .sub (.op .add (.var 1) (.var 1)) (.var 3)))
def nearest_f69 : List B := grow nearest_b68 ++ nearest_f68
def nearest_b69 : B := (.cmp .ne (.app 30 (.cons (.op .rem (.op .sub (.op .add (.var 1) (.var 1)) (.var 3)) (.op .add (.var 3) (.var 3))) (.cons (.lit 1) .nil))) (.lit 0))
def nearest_f70 : List B := grow nearest_b69 ++ nearest_f69
def nearest_f71 : List B := grow (B.neg nearest_b69) ++ nearest_f69
def nearest_b71 : B := (.cmp .ne (.app 30 (.cons (.op .rem (.op .sub (.op .add (.var 1) (.var 1)) (.var 3)) (.op .add (.var 3) (.var 3))) (.cons (.lit 65536) .nil))) (.lit 0))
def nearest_f72 : List B := grow nearest_b71 ++ nearest_f71
def nearest_f73 : List B := grow (B.neg nearest_b71) ++ nearest_f71
def nearest_b73 : B := (.cmp .ne (.app 30 (.cons (.op .rem (.op .sub (.op .add (.var 1) (.var 1)) (.var 3)) (.op .add (.var 3) (.var 3))) (.cons (.lit 4294967296) .nil))) (.lit 0))
def nearest_f74 : List B := grow nearest_b73 ++ nearest_f73
def nearest_f75 : List B := grow (B.neg nearest_b73) ++ nearest_f73
def nearest_b75 : B := (.cmp .ne (.app 30 (.cons (.op .rem (.op .sub (.op .add (.var 1) (.var 1)) (.var 3)) (.op .add (.var 3) (.var 3))) (.cons (.lit 281474976710656) .nil))) (.lit 0))
def nearest_f76 : List B := grow nearest_b75 ++ nearest_f75
def nearest_f77 : List B := grow (B.neg nearest_b75) ++ nearest_f75
def nearest_b77 : B := (.cmp .ne (.app 30 (.cons (.op .rem (.op .sub (.op .add (.var 1) (.var 1)) (.var 3)) (.op .add (.var 3) (.var 3))) (.cons (.lit 18446744073709551616) .nil))) (.lit 0))
def nearest_f78 : List B := grow nearest_b77 ++ nearest_f77
def nearest_f79 : List B := grow (B.neg nearest_b77) ++ nearest_f77
def nearest_b79 : B := (.cmp .ne (.app 30 (.cons (.op .rem (.op .sub (.op .add (.var 1) (.var 1)) (.var 3)) (.op .add (.var 3) (.var 3))) (.cons (.lit 1208925819614629174706176) .nil))) (.lit 0))
def nearest_f80 : List B := grow nearest_b79 ++ nearest_f79
def nearest_f81 : List B := grow (B.neg nearest_b79) ++ nearest_f79
def nearest_b81 : B := (.cmp .ne (.app 30 (.cons (.op .rem (.op .sub (.op .add (.var 1) (.var 1)) (.var 3)) (.op .add (.var 3) (.var 3))) (.cons (.lit 79228162514264337593543950336) .nil))) (.lit 0))
def nearest_f82 : List B := grow nearest_b81 ++ nearest_f81
def nearest_f83 : List B := grow (B.neg nearest_b81) ++ nearest_f81
def nearest_b83 : B := (.cmp .ne (.app 30 (.cons (.op .rem (.op .sub (.op .add (.var 1) (.var 1)) (.var 3)) (.op .add (.var 3) (.var 3))) (.cons (.lit 5192296858534827628530496329220096) .nil))) (.lit 0))
def nearest_f84 : List B := grow nearest_b83 ++ nearest_f83
def nearest_f85 : List B := grow (B.neg nearest_b83) ++ nearest_f83
def nearest_b85 : B := (.cmp .ne (.app 30 (.cons (.op .rem (.op .sub (.op .add (.var 1) (.var 1)) (.var 3)) (.op .add (.var 3) (.var 3))) (.cons (.lit 340282366920938463463374607431768211456) .nil))) (.lit 0))
def nearest_f86 : List B := grow nearest_b85 ++ nearest_f85
def nearest_f87 : List B := grow (B.neg nearest_b85) ++ nearest_f85
def nearest_b87 : B := (.cmp .ne (.app 30 (.cons (.op .rem (.op .sub (.op .add (.var 1) (.var 1)) (.var 3)) (.op .add (.var 3) (.var 3))) (.cons (.lit 22300745198530623141535718272648361505980416) .nil))) (.lit 0))
def nearest_f88 : List B := grow nearest_b87 ++ nearest_f87
def nearest_f89 : List B := grow (B.neg nearest_b87) ++ nearest_f87
def nearest_b89 : B := (.cmp .ne (.app 30 (.cons (.op .rem (.op .sub (.op .add (.var 1) (.var 1)) (.var 3)) (.op .add (.var 3) (.var 3))) (.cons (.lit 1461501637330902918203684832716283019655932542976) .nil))) (.lit 0))
def nearest_f90 : List B := grow nearest_b89 ++ nearest_f89
def nearest_f91 : List B := grow (B.neg nearest_b89) ++ nearest_f89
def nearest_b91 : B := (.cmp .ne (.app 30 (.cons (.op .rem (.op .sub (.op .add (.var 1) (.var 1)) (.var 3)) (.op .add (.var 3) (.var 3))) (.cons (.lit 95780971304118053647396689196894323976171195136475136) .nil))) (.lit 0))
def nearest_f92 : List B := grow nearest_b91 ++ nearest_f91
def nearest_f93 : List B := grow (B.neg nearest_b91) ++ nearest_f91
def nearest_f94 : List B := grow (B.neg nearest_b68) ++ nearest_f68
def nearest_f95 : List B := grow (B.neg nearest_b67) ++ nearest_f67
def nearest_b95 : B := (.cmp .le (.lit 0) (.op .sub (.op .add (.var 1) (.var 1)) (.var 3)))
def nearest_f96 : List B := grow nearest_b95 ++ nearest_f95
def nearest_b96 : B := (.cmp .ne (.app 30 (.cons (.op .rem (.op .sub (.op .add (.var 1) (.var 1)) (.var 3)) (.op .add (.var 3) (.var 3))) (.cons (.lit 1) .nil))) (.lit 0))
def nearest_f97 : List B := grow nearest_b96 ++ nearest_f96
def nearest_f98 : List B := grow (B.neg nearest_b96) ++ nearest_f96
def nearest_b98 : B := (.cmp .ne (.app 30 (.cons (.op .rem (.op .sub (.op .add (.var 1) (.var 1)) (.var 3)) (.op .add (.var 3) (.var 3))) (.cons (.lit 65536) .nil))) (.lit 0))
def nearest_f99 : List B := grow nearest_b98 ++ nearest_f98
def nearest_f100 : List B := grow (B.neg nearest_b98) ++ nearest_f98
def nearest_b100 : B := (.cmp .ne (.app 30 (.cons (.op .rem (.op .sub (.op .add (.var 1) (.var 1)) (.var 3)) (.op .add (.var 3) (.var 3))) (.cons (.lit 4294967296) .nil))) (.lit 0))
def nearest_f101 : List B := grow nearest_b100 ++ nearest_f100
def nearest_f102 : List B := grow (B.neg nearest_b100) ++ nearest_f100
def nearest_b102 : B := (.cmp .ne (.app 30 (.cons (.op .rem (.op .sub (.op .add (.var 1) (.var 1)) (.var 3)) (.op .add (.var 3) (.var 3))) (.cons (.lit 281474976710656) .nil))) (.lit 0))
def nearest_f103 : List B := grow nearest_b102 ++ nearest_f102
def nearest_f104 : List B := grow (B.neg nearest_b102) ++ nearest_f102
def nearest_b104 : B := (.cmp .ne (.app 30 (.cons (.op .rem (.op .sub (.op .add (.var 1) (.var 1)) (.var 3)) (.op .add (.var 3) (.var 3))) (.cons (.lit 18446744073709551616) .nil))) (.lit 0))
def nearest_f105 : List B := grow nearest_b104 ++ nearest_f104
def nearest_f106 : List B := grow (B.neg nearest_b104) ++ nearest_f104
def nearest_b106 : B := (.cmp .ne (.app 30 (.cons (.op .rem (.op .sub (.op .add (.var 1) (.var 1)) (.var 3)) (.op .add (.var 3) (.var 3))) (.cons (.lit 1208925819614629174706176) .nil))) (.lit 0))
def nearest_f107 : List B := grow nearest_b106 ++ nearest_f106
def nearest_f108 : List B := grow (B.neg nearest_b106) ++ nearest_f106
def nearest_b108 : B := (.cmp .ne (.app 30 (.cons (.op .rem (.op .sub (.op .add (.var 1) (.var 1)) (.var 3)) (.op .add (.var 3) (.var 3))) (.cons (.lit 79228162514264337593543950336) .nil))) (.lit 0))
def nearest_f109 : List B := grow nearest_b108 ++ nearest_f108
def nearest_f110 : List B := grow (B.neg nearest_b108) ++ nearest_f108
def nearest_b110 : B := (.cmp .ne (.app 30 (.cons (.op .rem (.op .sub (.op .add (.var 1) (.var 1)) (.var 3)) (.op .add (.var 3) (.var 3))) (.cons (.lit 5192296858534827628530496329220096) .nil))) (.lit 0))
def nearest_f111 : List B := grow nearest_b110 ++ nearest_f110
def nearest_f112 : List B := grow (B.neg nearest_b110) ++ nearest_f110
def nearest_b112 : B := (.cmp .ne (.app 30 (.cons (.op .rem (.op .sub (.op .add (.var 1) (.var 1)) (.var 3)) (.op .add (.var 3) (.var 3))) (.cons (.lit 340282366920938463463374607431768211456) .nil))) (.lit 0))
def nearest_f113 : List B := grow nearest_b112 ++ nearest_f112
def nearest_f114 : List B := grow (B.neg nearest_b112) ++ nearest_f112
def nearest_b114 : B := (.cmp .ne (.app 30 (.cons (.op .rem (.op .sub (.op .add (.var 1) (.var 1)) (.var 3)) (.op .add (.var 3) (.var 3))) (.cons (.lit 22300745198530623141535718272648361505980416) .nil))) (.lit 0))
def nearest_f115 : List B := grow nearest_b114 ++ nearest_f114
def nearest_f116 : List B := grow (B.neg nearest_b114) ++ nearest_f114
def nearest_b116 : B := (.cmp .ne (.app 30 (.cons (.op .rem (.op .sub (.op .add (.var 1) (.var 1)) (.var 3)) (.op .add (.var 3) (.var 3))) (.cons (.lit 1461501637330902918203684832716283019655932542976) .nil))) (.lit 0))
def nearest_f117 : List B := grow nearest_b116 ++ nearest_f116
def nearest_f118 : List B := grow (B.neg nearest_b116) ++ nearest_f116
def nearest_b118 : B := (.cmp .ne (.app 30 (.cons (.op .rem (.op .sub (.op .add (.var 1) (.var 1)) (.var 3)) (.op .add (.var 3) (.var 3))) (.cons (.lit 95780971304118053647396689196894323976171195136475136) .nil))) (.lit 0))
def nearest_f119 : List B := grow nearest_b118 ++ nearest_f118
def nearest_f120 : List B := grow (B.neg nearest_b118) ++ nearest_f118
def nearest_f121 : List B := grow (B.neg nearest_b95) ++ nearest_f95
def nearest_f122 : List B := grow (B.neg nearest_b62) ++ nearest_f62
end Go.Proofs.YtnffpaenalccaaaDoor
set_option maxRecDepth 100000
namespace Go.Proofs.YtnffpaenalccaaaDoor
open Go Go.RowKit Sx Wi
theorem nearest_n4 : nearest_R Tryd.prog nearest_f4 = .ok (.agg ([(.bool (.cmp .eq (.var 2) (.lit 0)))] ++ digL (.op .quo (.op .sub (.var 3) (.op .add (.var 1) (.var 1))) (.op .add (.var 3) (.var 3))))) := by kernel_rfl
theorem nearest_n9 : nearest_R Tryd.prog nearest_f9 = .ok (.agg ([(.bool (.cmp .eq (.var 0) (.lit 0)))] ++ digL (.op .add (.op .quo (.op .sub (.op .add (.var 1) (.var 1)) (.var 3)) (.op .add (.var 3) (.var 3))) (.lit 1)))) := by kernel_rfl
theorem nearest_n11 : nearest_R Tryd.prog nearest_f11 = .ok (.agg ([(.bool (.cmp .eq (.var 0) (.lit 0)))] ++ digL (.op .add (.op .quo (.op .sub (.op .add (.var 1) (.var 1)) (.var 3)) (.op .add (.var 3) (.var 3))) (.lit 1)))) := by kernel_rfl
theorem nearest_n13 : nearest_R Tryd.prog nearest_f13 = .ok (.agg ([(.bool (.cmp .eq (.var 0) (.lit 0)))] ++ digL (.op .add (.op .quo (.op .sub (.op .add (.var 1) (.var 1)) (.var 3)) (.op .add (.var 3) (.var 3))) (.lit 1)))) := by kernel_rfl
theorem nearest_n15 : nearest_R Tryd.prog nearest_f15 = .ok (.agg ([(.bool (.cmp .eq (.var 0) (.lit 0)))] ++ digL (.op .add (.op .quo (.op .sub (.op .add (.var 1) (.var 1)) (.var 3)) (.op .add (.var 3) (.var 3))) (.lit 1)))) := by kernel_rfl
theorem nearest_n17 : nearest_R Tryd.prog nearest_f17 = .ok (.agg ([(.bool (.cmp .eq (.var 0) (.lit 0)))] ++ digL (.op .add (.op .quo (.op .sub (.op .add (.var 1) (.var 1)) (.var 3)) (.op .add (.var 3) (.var 3))) (.lit 1)))) := by kernel_rfl
theorem nearest_n19 : nearest_R Tryd.prog nearest_f19 = .ok (.agg ([(.bool (.cmp .eq (.var 0) (.lit 0)))] ++ digL (.op .add (.op .quo (.op .sub (.op .add (.var 1) (.var 1)) (.var 3)) (.op .add (.var 3) (.var 3))) (.lit 1)))) := by kernel_rfl
theorem nearest_n21 : nearest_R Tryd.prog nearest_f21 = .ok (.agg ([(.bool (.cmp .eq (.var 0) (.lit 0)))] ++ digL (.op .add (.op .quo (.op .sub (.op .add (.var 1) (.var 1)) (.var 3)) (.op .add (.var 3) (.var 3))) (.lit 1)))) := by kernel_rfl
theorem nearest_n23 : nearest_R Tryd.prog nearest_f23 = .ok (.agg ([(.bool (.cmp .eq (.var 0) (.lit 0)))] ++ digL (.op .add (.op .quo (.op .sub (.op .add (.var 1) (.var 1)) (.var 3)) (.op .add (.var 3) (.var 3))) (.lit 1)))) := by kernel_rfl
theorem nearest_n25 : nearest_R Tryd.prog nearest_f25 = .ok (.agg ([(.bool (.cmp .eq (.var 0) (.lit 0)))] ++ digL (.op .add (.op .quo (.op .sub (.op .add (.var 1) (.var 1)) (.var 3)) (.op .add (.var 3) (.var 3))) (.lit 1)))) := by kernel_rfl
end Go.Proofs.YtnffpaenalccaaaDoor
set_option maxRecDepth 100000
namespace Go.Proofs.YtnffpaenalccaaaDoor
open Go Go.RowKit Sx Wi
theorem nearest_n27 : nearest_R Tryd.prog nearest_f27 = .ok (.agg ([(.bool (.cmp .eq (.var 0) (.lit 0)))] ++ digL (.op .add (.op .quo (.op .sub (.op .add (.var 1) (.var 1)) (.var 3)) (.op .add (.var 3) (.var 3))) (.lit 1)))) := by kernel_rfl
theorem nearest_n29 : nearest_R Tryd.prog nearest_f29 = .ok (.agg ([(.bool (.cmp .eq (.var 0) (.lit 0)))] ++ digL (.op .add (.op .quo (.op .sub (.op .add (.var 1) (.var 1)) (.var 3)) (.op .add (.var 3) (.var 3))) (.lit 1)))) := by kernel_rfl
theorem nearest_n31 : nearest_R Tryd.prog nearest_f31 = .ok (.agg ([(.bool (.cmp .eq (.var 0) (.lit 0)))] ++ digL (.op .add (.op .quo (.op .sub (.op .add (.var 1) (.var 1)) (.var 3)) (.op .add (.var 3) (.var 3))) (.lit 1)))) := by kernel_rfl
theorem nearest_n32 : nearest_R Tryd.prog nearest_f32 = .ok (.agg ([(.bool (.cmp .eq (.var 0) (.lit 0)))] ++ digL (.op .quo (.op .sub (.op .add (.var 1) (.var 1)) (.var 3)) (.op .add (.var 3) (.var 3))))) := by kernel_rfl
theorem nearest_n36 : nearest_R Tryd.prog nearest_f36 = .ok (.agg ([(.bool (.cmp .eq (.var 0) (.lit 0)))] ++ digL (.op .add (.op .quo (.op .sub (.op .add (.var 1) (.var 1)) (.var 3)) (.op .add (.var 3) (.var 3))) (.lit 1)))) := by kernel_rfl
theorem nearest_n38 : nearest_R Tryd.prog nearest_f38 = .ok (.agg ([(.bool (.cmp .eq (.var 0) (.lit 0)))] ++ digL (.op .add (.op .quo (.op .sub (.op .add (.var 1) (.var 1)) (.var 3)) (.op .add (.var 3) (.var 3))) (.lit 1)))) := by kernel_rfl
theorem nearest_n40 : nearest_R Tryd.prog nearest_f40 = .ok (.agg ([(.bool (.cmp .eq (.var 0) (.lit 0)))] ++ digL (.op .add (.op .quo (.op .sub (.op .add (.var 1) (.var 1)) (.var 3)) (.op .add (.var 3) (.var 3))) (.lit 1)))) := by kernel_rfl
theorem nearest_n42 : nearest_R Tryd.prog nearest_f42 = .ok (.agg ([(.bool (.cmp .eq (.var 0) (.lit 0)))] ++ digL (.op .add (.op .quo (.op .sub (.op .add (.var 1) (.var 1)) (.var 3)) (.op .add (.var 3) (.var 3))) (.lit 1)))) := by kernel_rfl
theorem nearest_n44 : nearest_R Tryd.prog nearest_f44 = .ok (.agg ([(.bool (.cmp .eq (.var 0) (.lit 0)))] ++ digL (.op .add (.op .quo (.op .sub (.op .add (.var 1) (.var 1)) (.var 3)) (.op .add (.var 3) (.var 3))) (.lit 1)))) := by kernel_rfl
theorem nearest_n46 : nearest_R Tryd.prog nearest_f46 = .ok (.agg ([(.bool (.cmp .eq (.var 0) (.lit 0)))] ++ digL (.op .add (.op .quo (.op .sub (.op .add (.var 1) (.var 1)) (.var 3)) (.op .add (.var 3) (.var 3))) (.lit 1)))) := by kernel_rfl
end Go.Proofs.YtnffpaenalccaaaDoor
set_option maxRecDepth 100000
namespace Go.Proofs.YtnffpaenalccaaaDoor
open Go Go.RowKit Sx Wi
theorem nearest_n48 : nearest_R Tryd.prog nearest_f48 = .ok (.agg ([(.bool (.cmp .eq (.var 0) (.lit 0)))] ++ digL (.op .add (.op .quo (.op .sub (.op .add (.var 1) (.var 1)) (.var 3)) (.op .add (.var 3) (.var 3))) (.lit 1)))) := by kernel_rfl
theorem nearest_n50 : nearest_R Tryd.prog nearest_f50 = .ok (.agg ([(.bool (.cmp .eq (.var 0) (.lit 0)))] ++ digL (.op .add (.op .quo (.op .sub (.op .add (.var 1) (.var 1)) (.var 3)) (.op .add (.var 3) (.var 3))) (.lit 1)))) := by kernel_rfl
theorem nearest_n52 : nearest_R Tryd.prog nearest_f52 = .ok (.agg ([(.bool (.cmp .eq (.var 0) (.lit 0)))] ++ digL (.op .add (.op .quo (.op .sub (.op .add (.var 1) (.var 1)) (.var 3)) (.op .add (.var 3) (.var 3))) (.lit 1)))) := by kernel_rfl
theorem nearest_n54 : nearest_R Tryd.prog nearest_f54 = .ok (.agg ([(.bool (.cmp .eq (.var 0) (.lit 0)))] ++ digL (.op .add (.op .quo (.op .sub (.op .add (.var 1) (.var 1)) (.var 3)) (.op .add (.var 3) (.var 3))) (.lit 1)))) := by kernel_rfl
theorem nearest_n56 : nearest_R Tryd.prog nearest_f56 = .ok (.agg ([(.bool (.cmp .eq (.var 0) (.lit 0)))] ++ digL (.op .add (.op .quo (.op .sub (.op .add (.var 1) (.var 1)) (.var 3)) (.op .add (.var 3) (.var 3))) (.lit 1)))) := by kernel_rfl
theorem nearest_n58 : nearest_R Tryd.prog nearest_f58 = .ok (.agg ([(.bool (.cmp .eq (.var 0) (.lit 0)))] ++ digL (.op .add (.op .quo (.op .sub (.op .add (.var 1) (.var 1)) (.var 3)) (.op .add (.var 3) (.var 3))) (.lit 1)))) := by kernel_rfl
theorem nearest_n59 : nearest_R Tryd.prog nearest_f59 = .ok (.agg ([(.bool (.cmp .eq (.var 0) (.lit 0)))] ++ digL (.op .quo (.op .sub (.op .add (.var 1) (.var 1)) (.var 3)) (.op .add (.var 3) (.var 3))))) := by kernel_rfl
theorem nearest_n61 : nearest_R Tryd.prog nearest_f61 = .ok (.agg ([(.bool (.cmp .eq (.var 0) (.lit 0)))] ++ digL (.op .quo (.op .add (.op .add (.var 1) (.var 1)) (.var 3)) (.op .add (.var 3) (.var 3))))) := by kernel_rfl
theorem nearest_n65 : nearest_R Tryd.prog nearest_f65 = .ok (.agg ([(.bool (.cmp .ne (.var 2) (.lit 0)))] ++ digL (.op .quo (.op .sub (.var 3) (.op .add (.var 1) (.var 1))) (.op .add (.var 3) (.var 3))))) := by kernel_rfl
theorem nearest_n70 : nearest_R Tryd.prog nearest_f70 = .ok (.agg ([(.bool (.cmp .ne (.var 0) (.lit 0)))] ++ digL (.op .add (.op .quo (.op .sub (.op .add (.var 1) (.var 1)) (.var 3)) (.op .add (.var 3) (.var 3))) (.lit 1)))) := by kernel_rfl
end Go.Proofs.YtnffpaenalccaaaDoor
set_option maxRecDepth 100000
namespace Go.Proofs.YtnffpaenalccaaaDoor
open Go Go.RowKit Sx Wi
theorem nearest_n72 : nearest_R Tryd.prog nearest_f72 = .ok (.agg ([(.bool (.cmp .ne (.var 0) (.lit 0)))] ++ digL (.op .add (.op .quo (.op .sub (.op .add (.var 1) (.var 1)) (.var 3)) (.op .add (.var 3) (.var 3))) (.lit 1)))) := by kernel_rfl
theorem nearest_n74 : nearest_R Tryd.prog nearest_f74 = .ok (.agg ([(.bool (.cmp .ne (.var 0) (.lit 0)))] ++ digL (.op .add (.op .quo (.op .sub (.op .add (.var 1) (.var 1)) (.var 3)) (.op .add (.var 3) (.var 3))) (.lit 1)))) := by kernel_rfl
theorem nearest_n76 : nearest_R Tryd.prog nearest_f76 = .ok (.agg ([(.bool (.cmp .ne (.var 0) (.lit 0)))] ++ digL (.op .add (.op .quo (.op .sub (.op .add (.var 1) (.var 1)) (.var 3)) (.op .add (.var 3) (.var 3))) (.lit 1)))) := by kernel_rfl
theorem nearest_n78 : nearest_R Tryd.prog nearest_f78 = .ok (.agg ([(.bool (.cmp .ne (.var 0) (.lit 0)))] ++ digL (.op .add (.op .quo (.op .sub (.op .add (.var 1) (.var 1)) (.var 3)) (.op .add (.var 3) (.var 3))) (.lit 1)))) := by kernel_rfl
theorem nearest_n80 : nearest_R Tryd.prog nearest_f80 = .ok (.agg ([(.bool (.cmp .ne (.var 0) (.lit 0)))] ++ digL (.op .add (.op .quo (.op .sub (.op .add (.var 1) (.var 1)) (.var 3)) (.op .add (.var 3) (.var 3))) (.lit 1)))) := by kernel_rfl
theorem nearest_n82 : nearest_R Tryd.prog nearest_f82 = .ok (.agg ([(.bool (.cmp .ne (.var 0) (.lit 0)))] ++ digL (.op .add (.op .quo (.op .sub (.op .add (.var 1) (.var 1)) (.var 3)) (.op .add (.var 3) (.var 3))) (.lit 1)))) := by kernel_rfl
theorem nearest_n84 : nearest_R Tryd.prog nearest_f84 = .ok (.agg ([(.bool (.cmp .ne (.var 0) (.lit 0)))] ++ digL (.op .add (.op .quo (.op .sub (.op .add (.var 1) (.var 1)) (.var 3)) (.op .add (.var 3) (.var 3))) (.lit 1)))) := by kernel_rfl
theorem nearest_n86 : nearest_R Tryd.prog nearest_f86 = .ok (.agg ([(.bool (.cmp .ne (.var 0) (.lit 0)))] ++ digL (.op .add (.op .quo (.op .sub (.op .add (.var 1) (.var 1)) (.var 3)) (.op .add (.var 3) (.var 3))) (.lit 1)))) := by kernel_rfl
theorem nearest_n88 : nearest_R Tryd.prog nearest_f88 = .ok (.agg ([(.bool (.cmp .ne (.var 0) (.lit 0)))] ++ digL (.op .add (.op .quo (.op .sub (.op .add (.var 1) (.var 1)) (.var 3)) (.op .add (.var 3) (.var 3))) (.lit 1)))) := by kernel_rfl
theorem nearest_n90 : nearest_R Tryd.prog nearest_f90 = .ok (.agg ([(.bool (.cmp .ne (.var 0) (.lit 0)))] ++ digL (.op .add (.op .quo (.op .sub (.op .add (.var 1) (.var 1)) (.var 3)) (.op .add (.var 3) (.var 3))) (.lit 1)))) := by kernel_rfl
end Go.Proofs.YtnffpaenalccaaaDoor
set_option maxRecDepth 100000
namespace Go.Proofs.YtnffpaenalccaaaDoor
open Go Go.RowKit Sx Wi
theorem nearest_n92 : nearest_R Tryd.prog nearest_f92 = .ok (.agg ([(.bool (.cmp .ne (.var 0) (.lit 0)))] ++ digL (.op .add (.op .quo (.op .sub (.op .add (.var 1) (.var 1)) (.var 3)) (.op .add (.var 3) (.var 3))) (.lit 1)))) := by kernel_rfl
theorem nearest_n93 : nearest_R Tryd.prog nearest_f93 = .ok (.agg ([(.bool (.cmp .ne (.var 0) (.lit 0)))] ++ digL (.op .quo (.op .sub (.op .add (.var 1) (.var 1)) (.var 3)) (.op .add (.var 3) (.var 3))))) := by kernel_rfl
theorem nearest_n97 : nearest_R Tryd.prog nearest_f97 = .ok (.agg ([(.bool (.cmp .ne (.var 0) (.lit 0)))] ++ digL (.op .add (.op .quo (.op .sub (.op .add (.var 1) (.var 1)) (.var 3)) (.op .add (.var 3) (.var 3))) (.lit 1)))) := by kernel_rfl
theorem nearest_n99 : nearest_R Tryd.prog nearest_f99 = .ok (.agg ([(.bool (.cmp .ne (.var 0) (.lit 0)))] ++ digL (.op .add (.op .quo (.op .sub (.op .add (.var 1) (.var 1)) (.var 3)) (.op .add (.var 3) (.var 3))) (.lit 1)))) := by kernel_rfl
theorem nearest_n101 : nearest_R Tryd.prog nearest_f101 = .ok (.agg ([(.bool (.cmp .ne (.var 0) (.lit 0)))] ++ digL (.op .add (.op .quo (.op .sub (.op .add (.var 1) (.var 1)) (.var 3)) (.op .add (.var 3) (.var 3))) (.lit 1)))) := by kernel_rfl
theorem nearest_n103 : nearest_R Tryd.prog nearest_f103 = .ok (.agg ([(.bool (.cmp .ne (.var 0) (.lit 0)))] ++ digL (.op .add (.op .quo (.op .sub (.op .add (.var 1) (.var 1)) (.var 3)) (.op .add (.var 3) (.var 3))) (.lit 1)))) := by kernel_rfl
theorem nearest_n105 : nearest_R Tryd.prog nearest_f105 = .ok (.agg ([(.bool (.cmp .ne (.var 0) (.lit 0)))] ++ digL (.op .add (.op .quo (.op .sub (.op .add (.var 1) (.var 1)) (.var 3)) (.op .add (.var 3) (.var 3))) (.lit 1)))) := by kernel_rfl
theorem nearest_n107 : nearest_R Tryd.prog nearest_f107 = .ok (.agg ([(.bool (.cmp .ne (.var 0) (.lit 0)))] ++ digL (.op .add (.op .quo (.op .sub (.op .add (.var 1) (.var 1)) (.var 3)) (.op .add (.var 3) (.var 3))) (.lit 1)))) := by kernel_rfl
theorem nearest_n109 : nearest_R Tryd.prog nearest_f109 = .ok (.agg ([(.bool (.cmp .ne (.var 0) (.lit 0)))] ++ digL (.op .add (.op .quo (.op .sub (.op .add (.var 1) (.var 1)) (.var 3)) (.op .add (.var 3) (.var 3))) (.lit 1)))) := by kernel_rfl
theorem nearest_n111 : nearest_R Tryd.prog nearest_f111 = .ok (.agg ([(.bool (.cmp .ne (.var 0) (.lit 0)))] ++ digL (.op .add (.op .quo (.op .sub (.op .add (.var 1) (.var 1)) (.var 3)) (.op .add (.var 3) (.var 3))) (.lit 1)))) := by kernel_rfl
end Go.Proofs.YtnffpaenalccaaaDoor
set_option maxRecDepth 100000
namespace Go.Proofs.YtnffpaenalccaaaDoor
open Go Go.RowKit Sx Wi
theorem nearest_n113 : nearest_R Tryd.prog nearest_f113 = .ok (.agg ([(.bool (.cmp .ne (.var 0) (.lit 0)))] ++ digL (.op .add (.op .quo (.op .sub (.op .add (.var 1) (.var 1)) (.var 3)) (.op .add (.var 3) (.var 3))) (.lit 1)))) := by kernel_rfl
theorem nearest_n115 : nearest_R Tryd.prog nearest_f115 = .ok (.agg ([(.bool (.cmp .ne (.var 0) (.lit 0)))] ++ digL (.op .add (.op .quo (.op .sub (.op .add (.var 1) (.var 1)) (.var 3)) (.op .add (.var 3) (.var 3))) (.lit 1)))) := by kernel_rfl
theorem nearest_n117 : nearest_R Tryd.prog nearest_f117 = .ok (.agg ([(.bool (.cmp .ne (.var 0) (.lit 0)))] ++ digL (.op .add (.op .quo (.op .sub (.op .add (.var 1) (.var 1)) (.var 3)) (.op .add (.var 3) (.var 3))) (.lit 1)))) := by kernel_rfl
theorem nearest_n119 : nearest_R Tryd.prog nearest_f119 = .ok (.agg ([(.bool (.cmp .ne (.var 0) (.lit 0)))] ++ digL (.op .add (.op .quo (.op .sub (.op .add (.var 1) (.var 1)) (.var 3)) (.op .add (.var 3) (.var 3))) (.lit 1)))) := by kernel_rfl
theorem nearest_n120 : nearest_R Tryd.prog nearest_f120 = .ok (.agg ([(.bool (.cmp .ne (.var 0) (.lit 0)))] ++ digL (.op .quo (.op .sub (.op .add (.var 1) (.var 1)) (.var 3)) (.op .add (.var 3) (.var 3))))) := by kernel_rfl
theorem nearest_n122 : nearest_R Tryd.prog nearest_f122 = .ok (.agg ([(.bool (.cmp .ne (.var 0) (.lit 0)))] ++ digL (.op .quo (.op .add (.op .add (.var 1) (.var 1)) (.var 3)) (.op .add (.var 3) (.var 3))))) := by kernel_rfl
end Go.Proofs.YtnffpaenalccaaaDoor
namespace Go.Proofs.YtnffpaenalccaaaDoor
open Go Go.RowKit Sx Nu Wi
def nearA (x0 x1 x2 : Int) : Int := if x0 = 0 then (if x2 = 0 then x1 else 0 - x1) else (if x2 = 0 then 0 - x1 else x1)
theorem near_up (a d : Int) (hd : 0 < d) (h : 0 ≤ 2 * a + d) : 0 ≤ Fx.near a d ∧ Fx.near a d = (2 * a + d) / (2 * d) := by
  refine ⟨?_, rfl⟩
  unfold Fx.near
  exact Int.ediv_nonneg h (by omega)
theorem near_low (a d V : Int) (hd : 0 < d) (e : 2 * a + d = 0 - V) (h : 0 ≤ V) : (V % (2 * d) = 0 → 0 - Fx.near a d = V / (2 * d)) ∧ (V % (2 * d) ≠ 0 → 0 - Fx.near a d = V / (2 * d) + 1) := by
  have m := Int.mul_ediv_add_emod V (2 * d)
  have r0 := Int.emod_nonneg V (show 2 * d ≠ 0 by omega)
  have r1 := Int.emod_lt_of_pos V (show 0 < 2 * d by omega)
  refine ⟨fun z => ?_, fun z => ?_⟩
  · have : Fx.near a d = -(V / (2 * d)) := by
      refine Fx.near_uniq _ _ _ hd ?_ ?_
      · have q : 2 * (-(V / (2 * d)) * d) = -(2 * d * (V / (2 * d))) := by grind
        omega
      · have q : 2 * (-(V / (2 * d)) * d) = -(2 * d * (V / (2 * d))) := by grind
        omega
    omega
  · have : Fx.near a d = -(V / (2 * d)) - 1 := by
      refine Fx.near_uniq _ _ _ hd ?_ ?_
      · have q : 2 * ((-(V / (2 * d)) - 1) * d) = -(2 * d * (V / (2 * d))) - 2 * d := by grind
        omega
      · have q : 2 * ((-(V / (2 * d)) - 1) * d) = -(2 * d * (V / (2 * d))) - 2 * d := by grind
        omega
    omega
theorem near_pl (a d U D : Int) (hd : 0 < d) (hD : D = 2 * d) (hU : 0 ≤ U) (e : 2 * a + d = 0 - U) (hr : U.tmod D ≠ 0) : U.tdiv D + 1 = max (Fx.near a d) (0 - Fx.near a d) := by
  subst hD
  obtain ⟨w0, w1⟩ := near_low a d U hd e hU
  have hl := near_le a d hd
  have hneg : Fx.near a d ≤ 0 := (hl.2 (by omega)).2
  rw [Int.tmod_eq_emod_of_nonneg hU] at hr
  rw [Int.tdiv_eq_ediv_of_nonneg hU, ← w1 hr]
  omega
theorem dg_zero (M : Int) : dg 0 M = 0 := by unfold dg; rw [Int.zero_ediv]; rfl
set_option maxHeartbeats 40000000 in
set_option maxRecDepth 100000 in
theorem nearest_any (x0 x1 x2 x3 : Int) (b0 : 0 ≤ x0 ∧ x0 ≤ 1) (b1 : 0 ≤ x1 ∧ x1 ≤ 1532495540865888858358347027150309183618739122183602176) (b2 : 0 ≤ x2 ∧ x2 ≤ 1) (b3 : 1 ≤ x3 ∧ x3 ≤ 1532495540865888858358347027150309183618739122183602176) (w : World) (hw : WOk GB w) : Known Tryd.prog 51 ∧ Calls Tryd.prog 51 #[.agg (.bool (!decide (x0 = 0)) :: digV x1).toArray, .agg (.bool (!decide (x2 = 0)) :: digV x3).toArray] w (fun e w' => e = .returned (.agg (.bool (decide (2 * nearA x0 x1 x2 + x3 ≤ 0)) :: digV (max (Fx.near (nearA x0 x1 x2) x3) (0 - Fx.near (nearA x0 x1 x2) x3))).toArray) ∧ Below w.heap.size w w') := by
  refine calls_eq (way_calls3 (ρ := rho [x0, x1, x2, x3]) (run := nearest_R Tryd.prog) (fun _ => rfl) (by kernel_rfl) (within_get ⟨b0, b1, b2, b3, trivial⟩) gi_ok (fun X hX hG => ct_divided_ok hX hG) rfl rfl (gbApart_one _) ?_ w hw)
  refine way_cut (.cmp .ne (.var 2) (.lit 0)) (fun h0 => ?_) (fun h0 => ?_)
  · skip
    refine way_cut (.cmp .eq (.var 0) (.lit 0)) (fun h1 => ?_) (fun h1 => ?_)
    rotate_left
    · skip
      refine way_leaf nearest_n61 ?_
      refine ⟨rfl, ?_⟩; simp only [nm, digL, dgE, dgP, dgP1, List.cons_append, List.nil_append, List.append_nil] at *; have hA : nearA x0 x1 x2 = x1 ∨ nearA x0 x1 x2 = 0 - x1 := (by unfold nearA; (repeat' split) <;> omega); have hv : nearA x0 x1 x2 = x1 := (by unfold nearA; (repeat' split) <;> omega); have hu : 0 < 2 * (x1) + x3 := (by omega); obtain ⟨u0, u1⟩ := near_up (x1) x3 (by omega) (by omega); have ed : (x3 + x3) = 2 * x3 := (by omega); have eu : ((x1 + x1) + x3) = 2 * (x1) + x3 := (by omega); have eq : (Int.tdiv ((x1 + x1) + x3) (x3 + x3)) = max (Fx.near (x1) x3) (0 - Fx.near (x1) x3) := (by rw [ed, eu, Int.tdiv_eq_ediv_of_nonneg (by omega), ← u1]; omega); have eb : decide (2 * nearA x0 x1 x2 + x3 ≤ 0) = false := decide_eq_false (by rw [hv]; omega); have es : (decide (x0 = 0)) = false := (by simp [*]); rw [eb, hv, ← eq, ← es]; rfl
    refine way_cut (.cmp .lt (.op .add (.var 1) (.var 1)) (.var 3)) (fun h2 => ?_) (fun h2 => ?_)
    · skip
      refine way_cut (.cmp .le (.lit 0) (.op .sub (.var 3) (.op .add (.var 1) (.var 1)))) (fun h3 => ?_) (fun h3 => ?_)
      · skip
        refine way_leaf nearest_n4 ?_
        refine ⟨rfl, ?_⟩; simp only [nm, digL, dgE, dgP, dgP1, List.cons_append, List.nil_append, List.append_nil] at *; have hA : nearA x0 x1 x2 = x1 ∨ nearA x0 x1 x2 = 0 - x1 := (by unfold nearA; (repeat' split) <;> omega); have hv : nearA x0 x1 x2 = 0 - x1 := (by unfold nearA; (repeat' split) <;> omega); have hu : 0 < 2 * (0 - x1) + x3 := (by omega); obtain ⟨u0, u1⟩ := near_up (0 - x1) x3 (by omega) (by omega); have ed : (x3 + x3) = 2 * x3 := (by omega); have eu : (x3 - (x1 + x1)) = 2 * (0 - x1) + x3 := (by omega); have eq : (Int.tdiv (x3 - (x1 + x1)) (x3 + x3)) = max (Fx.near (0 - x1) x3) (0 - Fx.near (0 - x1) x3) := (by rw [ed, eu, Int.tdiv_eq_ediv_of_nonneg (by omega), ← u1]; omega); have eb : decide (2 * nearA x0 x1 x2 + x3 ≤ 0) = false := decide_eq_false (by rw [hv]; omega); have es : (decide (x2 = 0)) = false := (by simp [*]); rw [eb, hv, ← eq, ← es]; rfl
      refine way_bad ?_
      simp only [nm, digL, dgE, dgP, dgP1, List.cons_append, List.nil_append, List.append_nil] at *; omega
    refine way_cut (.cmp .lt (.var 3) (.op .add (.var 1) (.var 1))) (fun h3 => ?_) (fun h3 => ?_)
    · skip
      refine way_cut (.cmp .le (.lit 0) (.op .sub (.op .add (.var 1) (.var 1)) (.var 3))) (fun h4 => ?_) (fun h4 => ?_)
      rotate_left
      · skip
        refine way_bad ?_
        simp only [nm, digL, dgE, dgP, dgP1, List.cons_append, List.nil_append, List.append_nil] at *; omega
      refine way_cut (.cmp .ne (.app 30 (.cons (.op .rem (.op .sub (.op .add (.var 1) (.var 1)) (.var 3)) (.op .add (.var 3) (.var 3))) (.cons (.lit 1) .nil))) (.lit 0)) (fun h5 => ?_) (fun h5 => ?_)
      · skip
        refine way_leaf nearest_n9 ?_
        refine ⟨rfl, ?_⟩; simp only [nm, digL, dgE, dgP, dgP1, List.cons_append, List.nil_append, List.append_nil] at *; have hA : nearA x0 x1 x2 = x1 ∨ nearA x0 x1 x2 = 0 - x1 := (by unfold nearA; (repeat' split) <;> omega); have hv : nearA x0 x1 x2 = 0 - x1 := (by unfold nearA; (repeat' split) <;> omega); have hu : 0 ≤ ((x1 + x1) - x3) := (by omega); have eq := near_pl (0 - x1) x3 ((x1 + x1) - x3) (x3 + x3) (by omega) (by omega) hu (by omega) (by intro z; exact h5 (by rw [z]; exact dg_zero _)); have eb : decide (2 * nearA x0 x1 x2 + x3 ≤ 0) = true := decide_eq_true (by rw [hv]; omega); have es : (decide (x0 = 0)) = true := (by simp [*]); rw [eb, hv, ← eq, ← es]; rfl
      refine way_cut (.cmp .ne (.app 30 (.cons (.op .rem (.op .sub (.op .add (.var 1) (.var 1)) (.var 3)) (.op .add (.var 3) (.var 3))) (.cons (.lit 65536) .nil))) (.lit 0)) (fun h6 => ?_) (fun h6 => ?_)
      · skip
        refine way_leaf nearest_n11 ?_
        refine ⟨rfl, ?_⟩; simp only [nm, digL, dgE, dgP, dgP1, List.cons_append, List.nil_append, List.append_nil] at *; have hA : nearA x0 x1 x2 = x1 ∨ nearA x0 x1 x2 = 0 - x1 := (by unfold nearA; (repeat' split) <;> omega); have hv : nearA x0 x1 x2 = 0 - x1 := (by unfold nearA; (repeat' split) <;> omega); have hu : 0 ≤ ((x1 + x1) - x3) := (by omega); have eq := near_pl (0 - x1) x3 ((x1 + x1) - x3) (x3 + x3) (by omega) (by omega) hu (by omega) (by intro z; exact h6 (by rw [z]; exact dg_zero _)); have eb : decide (2 * nearA x0 x1 x2 + x3 ≤ 0) = true := decide_eq_true (by rw [hv]; omega); have es : (decide (x0 = 0)) = true := (by simp [*]); rw [eb, hv, ← eq, ← es]; rfl
      refine way_cut (.cmp .ne (.app 30 (.cons (.op .rem (.op .sub (.op .add (.var 1) (.var 1)) (.var 3)) (.op .add (.var 3) (.var 3))) (.cons (.lit 4294967296) .nil))) (.lit 0)) (fun h7 => ?_) (fun h7 => ?_)
      · skip
        refine way_leaf nearest_n13 ?_
        refine ⟨rfl, ?_⟩; simp only [nm, digL, dgE, dgP, dgP1, List.cons_append, List.nil_append, List.append_nil] at *; have hA : nearA x0 x1 x2 = x1 ∨ nearA x0 x1 x2 = 0 - x1 := (by unfold nearA; (repeat' split) <;> omega); have hv : nearA x0 x1 x2 = 0 - x1 := (by unfold nearA; (repeat' split) <;> omega); have hu : 0 ≤ ((x1 + x1) - x3) := (by omega); have eq := near_pl (0 - x1) x3 ((x1 + x1) - x3) (x3 + x3) (by omega) (by omega) hu (by omega) (by intro z; exact h7 (by rw [z]; exact dg_zero _)); have eb : decide (2 * nearA x0 x1 x2 + x3 ≤ 0) = true := decide_eq_true (by rw [hv]; omega); have es : (decide (x0 = 0)) = true := (by simp [*]); rw [eb, hv, ← eq, ← es]; rfl
      refine way_cut (.cmp .ne (.app 30 (.cons (.op .rem (.op .sub (.op .add (.var 1) (.var 1)) (.var 3)) (.op .add (.var 3) (.var 3))) (.cons (.lit 281474976710656) .nil))) (.lit 0)) (fun h8 => ?_) (fun h8 => ?_)
      · skip
        refine way_leaf nearest_n15 ?_
        refine ⟨rfl, ?_⟩; simp only [nm, digL, dgE, dgP, dgP1, List.cons_append, List.nil_append, List.append_nil] at *; have hA : nearA x0 x1 x2 = x1 ∨ nearA x0 x1 x2 = 0 - x1 := (by unfold nearA; (repeat' split) <;> omega); have hv : nearA x0 x1 x2 = 0 - x1 := (by unfold nearA; (repeat' split) <;> omega); have hu : 0 ≤ ((x1 + x1) - x3) := (by omega); have eq := near_pl (0 - x1) x3 ((x1 + x1) - x3) (x3 + x3) (by omega) (by omega) hu (by omega) (by intro z; exact h8 (by rw [z]; exact dg_zero _)); have eb : decide (2 * nearA x0 x1 x2 + x3 ≤ 0) = true := decide_eq_true (by rw [hv]; omega); have es : (decide (x0 = 0)) = true := (by simp [*]); rw [eb, hv, ← eq, ← es]; rfl
      refine way_cut (.cmp .ne (.app 30 (.cons (.op .rem (.op .sub (.op .add (.var 1) (.var 1)) (.var 3)) (.op .add (.var 3) (.var 3))) (.cons (.lit 18446744073709551616) .nil))) (.lit 0)) (fun h9 => ?_) (fun h9 => ?_)
      · skip
        refine way_leaf nearest_n17 ?_
        refine ⟨rfl, ?_⟩; simp only [nm, digL, dgE, dgP, dgP1, List.cons_append, List.nil_append, List.append_nil] at *; have hA : nearA x0 x1 x2 = x1 ∨ nearA x0 x1 x2 = 0 - x1 := (by unfold nearA; (repeat' split) <;> omega); have hv : nearA x0 x1 x2 = 0 - x1 := (by unfold nearA; (repeat' split) <;> omega); have hu : 0 ≤ ((x1 + x1) - x3) := (by omega); have eq := near_pl (0 - x1) x3 ((x1 + x1) - x3) (x3 + x3) (by omega) (by omega) hu (by omega) (by intro z; exact h9 (by rw [z]; exact dg_zero _)); have eb : decide (2 * nearA x0 x1 x2 + x3 ≤ 0) = true := decide_eq_true (by rw [hv]; omega); have es : (decide (x0 = 0)) = true := (by simp [*]); rw [eb, hv, ← eq, ← es]; rfl
      refine way_cut (.cmp .ne (.app 30 (.cons (.op .rem (.op .sub (.op .add (.var 1) (.var 1)) (.var 3)) (.op .add (.var 3) (.var 3))) (.cons (.lit 1208925819614629174706176) .nil))) (.lit 0)) (fun h10 => ?_) (fun h10 => ?_)
      · skip
        refine way_leaf nearest_n19 ?_
        refine ⟨rfl, ?_⟩; simp only [nm, digL, dgE, dgP, dgP1, List.cons_append, List.nil_append, List.append_nil] at *; have hA : nearA x0 x1 x2 = x1 ∨ nearA x0 x1 x2 = 0 - x1 := (by unfold nearA; (repeat' split) <;> omega); have hv : nearA x0 x1 x2 = 0 - x1 := (by unfold nearA; (repeat' split) <;> omega); have hu : 0 ≤ ((x1 + x1) - x3) := (by omega); have eq := near_pl (0 - x1) x3 ((x1 + x1) - x3) (x3 + x3) (by omega) (by omega) hu (by omega) (by intro z; exact h10 (by rw [z]; exact dg_zero _)); have eb : decide (2 * nearA x0 x1 x2 + x3 ≤ 0) = true := decide_eq_true (by rw [hv]; omega); have es : (decide (x0 = 0)) = true := (by simp [*]); rw [eb, hv, ← eq, ← es]; rfl
      refine way_cut (.cmp .ne (.app 30 (.cons (.op .rem (.op .sub (.op .add (.var 1) (.var 1)) (.var 3)) (.op .add (.var 3) (.var 3))) (.cons (.lit 79228162514264337593543950336) .nil))) (.lit 0)) (fun h11 => ?_) (fun h11 => ?_)
      · skip
        refine way_leaf nearest_n21 ?_
        refine ⟨rfl, ?_⟩; simp only [nm, digL, dgE, dgP, dgP1, List.cons_append, List.nil_append, List.append_nil] at *; have hA : nearA x0 x1 x2 = x1 ∨ nearA x0 x1 x2 = 0 - x1 := (by unfold nearA; (repeat' split) <;> omega); have hv : nearA x0 x1 x2 = 0 - x1 := (by unfold nearA; (repeat' split) <;> omega); have hu : 0 ≤ ((x1 + x1) - x3) := (by omega); have eq := near_pl (0 - x1) x3 ((x1 + x1) - x3) (x3 + x3) (by omega) (by omega) hu (by omega) (by intro z; exact h11 (by rw [z]; exact dg_zero _)); have eb : decide (2 * nearA x0 x1 x2 + x3 ≤ 0) = true := decide_eq_true (by rw [hv]; omega); have es : (decide (x0 = 0)) = true := (by simp [*]); rw [eb, hv, ← eq, ← es]; rfl
      refine way_cut (.cmp .ne (.app 30 (.cons (.op .rem (.op .sub (.op .add (.var 1) (.var 1)) (.var 3)) (.op .add (.var 3) (.var 3))) (.cons (.lit 5192296858534827628530496329220096) .nil))) (.lit 0)) (fun h12 => ?_) (fun h12 => ?_)
      · skip
        refine way_leaf nearest_n23 ?_
        refine ⟨rfl, ?_⟩; simp only [nm, digL, dgE, dgP, dgP1, List.cons_append, List.nil_append, List.append_nil] at *; have hA : nearA x0 x1 x2 = x1 ∨ nearA x0 x1 x2 = 0 - x1 := (by unfold nearA; (repeat' split) <;> omega); have hv : nearA x0 x1 x2 = 0 - x1 := (by unfold nearA; (repeat' split) <;> omega); have hu : 0 ≤ ((x1 + x1) - x3) := (by omega); have eq := near_pl (0 - x1) x3 ((x1 + x1) - x3) (x3 + x3) (by omega) (by omega) hu (by omega) (by intro z; exact h12 (by rw [z]; exact dg_zero _)); have eb : decide (2 * nearA x0 x1 x2 + x3 ≤ 0) = true := decide_eq_true (by rw [hv]; omega); have es : (decide (x0 = 0)) = true := (by simp [*]); rw [eb, hv, ← eq, ← es]; rfl
      refine way_cut (.cmp .ne (.app 30 (.cons (.op .rem (.op .sub (.op .add (.var 1) (.var 1)) (.var 3)) (.op .add (.var 3) (.var 3))) (.cons (.lit 340282366920938463463374607431768211456) .nil))) (.lit 0)) (fun h13 => ?_) (fun h13 => ?_)
      · skip
        refine way_leaf nearest_n25 ?_
        refine ⟨rfl, ?_⟩; simp only [nm, digL, dgE, dgP, dgP1, List.cons_append, List.nil_append, List.append_nil] at *; have hA : nearA x0 x1 x2 = x1 ∨ nearA x0 x1 x2 = 0 - x1 := (by unfold nearA; (repeat' split) <;> omega); have hv : nearA x0 x1 x2 = 0 - x1 := (by unfold nearA; (repeat' split) <;> omega); have hu : 0 ≤ ((x1 + x1) - x3) := (by omega); have eq := near_pl (0 - x1) x3 ((x1 + x1) - x3) (x3 + x3) (by omega) (by omega) hu (by omega) (by intro z; exact h13 (by rw [z]; exact dg_zero _)); have eb : decide (2 * nearA x0 x1 x2 + x3 ≤ 0) = true := decide_eq_true (by rw [hv]; omega); have es : (decide (x0 = 0)) = true := (by simp [*]); rw [eb, hv, ← eq, ← es]; rfl
      refine way_cut (.cmp .ne (.app 30 (.cons (.op .rem (.op .sub (.op .add (.var 1) (.var 1)) (.var 3)) (.op .add (.var 3) (.var 3))) (.cons (.lit 22300745198530623141535718272648361505980416) .nil))) (.lit 0)) (fun h14 => ?_) (fun h14 => ?_)
      · skip
        refine way_leaf nearest_n27 ?_
        refine ⟨rfl, ?_⟩; simp only [nm, digL, dgE, dgP, dgP1, List.cons_append, List.nil_append, List.append_nil] at *; have hA : nearA x0 x1 x2 = x1 ∨ nearA x0 x1 x2 = 0 - x1 := (by unfold nearA; (repeat' split) <;> omega); have hv : nearA x0 x1 x2 = 0 - x1 := (by unfold nearA; (repeat' split) <;> omega); have hu : 0 ≤ ((x1 + x1) - x3) := (by omega); have eq := near_pl (0 - x1) x3 ((x1 + x1) - x3) (x3 + x3) (by omega) (by omega) hu (by omega) (by intro z; exact h14 (by rw [z]; exact dg_zero _)); have eb : decide (2 * nearA x0 x1 x2 + x3 ≤ 0) = true := decide_eq_true (by rw [hv]; omega); have es : (decide (x0 = 0)) = true := (by simp [*]); rw [eb, hv, ← eq, ← es]; rfl
      refine way_cut (.cmp .ne (.app 30 (.cons (.op .rem (.op .sub (.op .add (.var 1) (.var 1)) (.var 3)) (.op .add (.var 3) (.var 3))) (.cons (.lit 1461501637330902918203684832716283019655932542976) .nil))) (.lit 0)) (fun h15 => ?_) (fun h15 => ?_)
      · skip
        refine way_leaf nearest_n29 ?_
        refine ⟨rfl, ?_⟩; simp only [nm, digL, dgE, dgP, dgP1, List.cons_append, List.nil_append, List.append_nil] at *; have hA : nearA x0 x1 x2 = x1 ∨ nearA x0 x1 x2 = 0 - x1 := (by unfold nearA; (repeat' split) <;> omega); have hv : nearA x0 x1 x2 = 0 - x1 := (by unfold nearA; (repeat' split) <;> omega); have hu : 0 ≤ ((x1 + x1) - x3) := (by omega); have eq := near_pl (0 - x1) x3 ((x1 + x1) - x3) (x3 + x3) (by omega) (by omega) hu (by omega) (by intro z; exact h15 (by rw [z]; exact dg_zero _)); have eb : decide (2 * nearA x0 x1 x2 + x3 ≤ 0) = true := decide_eq_true (by rw [hv]; omega); have es : (decide (x0 = 0)) = true := (by simp [*]); rw [eb, hv, ← eq, ← es]; rfl
      refine way_cut (.cmp .ne (.app 30 (.cons (.op .rem (.op .sub (.op .add (.var 1) (.var 1)) (.var 3)) (.op .add (.var 3) (.var 3))) (.cons (.lit 95780971304118053647396689196894323976171195136475136) .nil))) (.lit 0)) (fun h16 => ?_) (fun h16 => ?_)
      · skip
        refine way_leaf nearest_n31 ?_
        refine ⟨rfl, ?_⟩; simp only [nm, digL, dgE, dgP, dgP1, List.cons_append, List.nil_append, List.append_nil] at *; have hA : nearA x0 x1 x2 = x1 ∨ nearA x0 x1 x2 = 0 - x1 := (by unfold nearA; (repeat' split) <;> omega); have hv : nearA x0 x1 x2 = 0 - x1 := (by unfold nearA; (repeat' split) <;> omega); have hu : 0 ≤ ((x1 + x1) - x3) := (by omega); have eq := near_pl (0 - x1) x3 ((x1 + x1) - x3) (x3 + x3) (by omega) (by omega) hu (by omega) (by intro z; exact h16 (by rw [z]; exact dg_zero _)); have eb : decide (2 * nearA x0 x1 x2 + x3 ≤ 0) = true := decide_eq_true (by rw [hv]; omega); have es : (decide (x0 = 0)) = true := (by simp [*]); rw [eb, hv, ← eq, ← es]; rfl
      refine way_leaf nearest_n32 ?_
      refine ⟨rfl, ?_⟩; simp only [nm, digL, dgE, dgP, dgP1, List.cons_append, List.nil_append, List.append_nil] at *; have hA : nearA x0 x1 x2 = x1 ∨ nearA x0 x1 x2 = 0 - x1 := (by unfold nearA; (repeat' split) <;> omega); have hv : nearA x0 x1 x2 = 0 - x1 := (by unfold nearA; (repeat' split) <;> omega); have hu : 0 ≤ ((x1 + x1) - x3) := (by omega); obtain ⟨w0, w1⟩ := near_low (0 - x1) x3 ((x1 + x1) - x3) (by omega) (by omega) hu; have ed : (x3 + x3) = 2 * x3 := (by omega); have er : (Int.tmod ((x1 + x1) - x3) (x3 + x3)) = ((x1 + x1) - x3) % (2 * x3) := (by rw [ed, Int.tmod_eq_emod_of_nonneg hu]); have hl := near_le (0 - x1) x3 (by omega); have hneg : Fx.near (0 - x1) x3 ≤ 0 := (hl.2 (by omega)).2; have hr : ((x1 + x1) - x3) % (2 * x3) = 0 := (by rw [← er]; have ha := dg_all (Int.tmod ((x1 + x1) - x3) (x3 + x3)) (Int.tmod_nonneg _ hu) (by rw [er]; have := Int.emod_lt_of_pos ((x1 + x1) - x3) (show 0 < 2 * x3 by omega); omega); omega); have eq : (Int.tdiv ((x1 + x1) - x3) (x3 + x3)) = max (Fx.near (0 - x1) x3) (0 - Fx.near (0 - x1) x3) := (by rw [ed, Int.tdiv_eq_ediv_of_nonneg hu, ← w0 hr]; omega); have eb : decide (2 * nearA x0 x1 x2 + x3 ≤ 0) = true := decide_eq_true (by rw [hv]; omega); have es : (decide (x0 = 0)) = true := (by simp [*]); rw [eb, hv, ← eq, ← es]; rfl
    refine way_cut (.cmp .le (.lit 0) (.op .sub (.op .add (.var 1) (.var 1)) (.var 3))) (fun h4 => ?_) (fun h4 => ?_)
    rotate_left
    · skip
      refine way_bad ?_
      simp only [nm, digL, dgE, dgP, dgP1, List.cons_append, List.nil_append, List.append_nil] at *; omega
    refine way_cut (.cmp .ne (.app 30 (.cons (.op .rem (.op .sub (.op .add (.var 1) (.var 1)) (.var 3)) (.op .add (.var 3) (.var 3))) (.cons (.lit 1) .nil))) (.lit 0)) (fun h5 => ?_) (fun h5 => ?_)
    · skip
      refine way_leaf nearest_n36 ?_
      refine ⟨rfl, ?_⟩; simp only [nm, digL, dgE, dgP, dgP1, List.cons_append, List.nil_append, List.append_nil] at *; have hA : nearA x0 x1 x2 = x1 ∨ nearA x0 x1 x2 = 0 - x1 := (by unfold nearA; (repeat' split) <;> omega); have hv : nearA x0 x1 x2 = 0 - x1 := (by unfold nearA; (repeat' split) <;> omega); have hu : 0 ≤ ((x1 + x1) - x3) := (by omega); have eq := near_pl (0 - x1) x3 ((x1 + x1) - x3) (x3 + x3) (by omega) (by omega) hu (by omega) (by intro z; exact h5 (by rw [z]; exact dg_zero _)); have eb : decide (2 * nearA x0 x1 x2 + x3 ≤ 0) = true := decide_eq_true (by rw [hv]; omega); have es : (decide (x0 = 0)) = true := (by simp [*]); rw [eb, hv, ← eq, ← es]; rfl
    refine way_cut (.cmp .ne (.app 30 (.cons (.op .rem (.op .sub (.op .add (.var 1) (.var 1)) (.var 3)) (.op .add (.var 3) (.var 3))) (.cons (.lit 65536) .nil))) (.lit 0)) (fun h6 => ?_) (fun h6 => ?_)
    · skip
      refine way_leaf nearest_n38 ?_
      refine ⟨rfl, ?_⟩; simp only [nm, digL, dgE, dgP, dgP1, List.cons_append, List.nil_append, List.append_nil] at *; have hA : nearA x0 x1 x2 = x1 ∨ nearA x0 x1 x2 = 0 - x1 := (by unfold nearA; (repeat' split) <;> omega); have hv : nearA x0 x1 x2 = 0 - x1 := (by unfold nearA; (repeat' split) <;> omega); have hu : 0 ≤ ((x1 + x1) - x3) := (by omega); have eq := near_pl (0 - x1) x3 ((x1 + x1) - x3) (x3 + x3) (by omega) (by omega) hu (by omega) (by intro z; exact h6 (by rw [z]; exact dg_zero _)); have eb : decide (2 * nearA x0 x1 x2 + x3 ≤ 0) = true := decide_eq_true (by rw [hv]; omega); have es : (decide (x0 = 0)) = true := (by simp [*]); rw [eb, hv, ← eq, ← es]; rfl
    refine way_cut (.cmp .ne (.app 30 (.cons (.op .rem (.op .sub (.op .add (.var 1) (.var 1)) (.var 3)) (.op .add (.var 3) (.var 3))) (.cons (.lit 4294967296) .nil))) (.lit 0)) (fun h7 => ?_) (fun h7 => ?_)
    · skip
      refine way_leaf nearest_n40 ?_
      refine ⟨rfl, ?_⟩; simp only [nm, digL, dgE, dgP, dgP1, List.cons_append, List.nil_append, List.append_nil] at *; have hA : nearA x0 x1 x2 = x1 ∨ nearA x0 x1 x2 = 0 - x1 := (by unfold nearA; (repeat' split) <;> omega); have hv : nearA x0 x1 x2 = 0 - x1 := (by unfold nearA; (repeat' split) <;> omega); have hu : 0 ≤ ((x1 + x1) - x3) := (by omega); have eq := near_pl (0 - x1) x3 ((x1 + x1) - x3) (x3 + x3) (by omega) (by omega) hu (by omega) (by intro z; exact h7 (by rw [z]; exact dg_zero _)); have eb : decide (2 * nearA x0 x1 x2 + x3 ≤ 0) = true := decide_eq_true (by rw [hv]; omega); have es : (decide (x0 = 0)) = true := (by simp [*]); rw [eb, hv, ← eq, ← es]; rfl
    refine way_cut (.cmp .ne (.app 30 (.cons (.op .rem (.op .sub (.op .add (.var 1) (.var 1)) (.var 3)) (.op .add (.var 3) (.var 3))) (.cons (.lit 281474976710656) .nil))) (.lit 0)) (fun h8 => ?_) (fun h8 => ?_)
    · skip
      refine way_leaf nearest_n42 ?_
      refine ⟨rfl, ?_⟩; simp only [nm, digL, dgE, dgP, dgP1, List.cons_append, List.nil_append, List.append_nil] at *; have hA : nearA x0 x1 x2 = x1 ∨ nearA x0 x1 x2 = 0 - x1 := (by unfold nearA; (repeat' split) <;> omega); have hv : nearA x0 x1 x2 = 0 - x1 := (by unfold nearA; (repeat' split) <;> omega); have hu : 0 ≤ ((x1 + x1) - x3) := (by omega); have eq := near_pl (0 - x1) x3 ((x1 + x1) - x3) (x3 + x3) (by omega) (by omega) hu (by omega) (by intro z; exact h8 (by rw [z]; exact dg_zero _)); have eb : decide (2 * nearA x0 x1 x2 + x3 ≤ 0) = true := decide_eq_true (by rw [hv]; omega); have es : (decide (x0 = 0)) = true := (by simp [*]); rw [eb, hv, ← eq, ← es]; rfl
    refine way_cut (.cmp .ne (.app 30 (.cons (.op .rem (.op .sub (.op .add (.var 1) (.var 1)) (.var 3)) (.op .add (.var 3) (.var 3))) (.cons (.lit 18446744073709551616) .nil))) (.lit 0)) (fun h9 => ?_) (fun h9 => ?_)
    · skip
      refine way_leaf nearest_n44 ?_
      refine ⟨rfl, ?_⟩; simp only [nm, digL, dgE, dgP, dgP1, List.cons_append, List.nil_append, List.append_nil] at *; have hA : nearA x0 x1 x2 = x1 ∨ nearA x0 x1 x2 = 0 - x1 := (by unfold nearA; (repeat' split) <;> omega); have hv : nearA x0 x1 x2 = 0 - x1 := (by unfold nearA; (repeat' split) <;> omega); have hu : 0 ≤ ((x1 + x1) - x3) := (by omega); have eq := near_pl (0 - x1) x3 ((x1 + x1) - x3) (x3 + x3) (by omega) (by omega) hu (by omega) (by intro z; exact h9 (by rw [z]; exact dg_zero _)); have eb : decide (2 * nearA x0 x1 x2 + x3 ≤ 0) = true := decide_eq_true (by rw [hv]; omega); have es : (decide (x0 = 0)) = true := (by simp [*]); rw [eb, hv, ← eq, ← es]; rfl
    refine way_cut (.cmp .ne (.app 30 (.cons (.op .rem (.op .sub (.op .add (.var 1) (.var 1)) (.var 3)) (.op .add (.var 3) (.var 3))) (.cons (.lit 1208925819614629174706176) .nil))) (.lit 0)) (fun h10 => ?_) (fun h10 => ?_)
    · skip
      refine way_leaf nearest_n46 ?_
      refine ⟨rfl, ?_⟩; simp only [nm, digL, dgE, dgP, dgP1, List.cons_append, List.nil_append, List.append_nil] at *; have hA : nearA x0 x1 x2 = x1 ∨ nearA x0 x1 x2 = 0 - x1 := (by unfold nearA; (repeat' split) <;> omega); have hv : nearA x0 x1 x2 = 0 - x1 := (by unfold nearA; (repeat' split) <;> omega); have hu : 0 ≤ ((x1 + x1) - x3) := (by omega); have eq := near_pl (0 - x1) x3 ((x1 + x1) - x3) (x3 + x3) (by omega) (by omega) hu (by omega) (by intro z; exact h10 (by rw [z]; exact dg_zero _)); have eb : decide (2 * nearA x0 x1 x2 + x3 ≤ 0) = true := decide_eq_true (by rw [hv]; omega); have es : (decide (x0 = 0)) = true := (by simp [*]); rw [eb, hv, ← eq, ← es]; rfl
    refine way_cut (.cmp .ne (.app 30 (.cons (.op .rem (.op .sub (.op .add (.var 1) (.var 1)) (.var 3)) (.op .add (.var 3) (.var 3))) (.cons (.lit 79228162514264337593543950336) .nil))) (.lit 0)) (fun h11 => ?_) (fun h11 => ?_)
    · skip
      refine way_leaf nearest_n48 ?_
      refine ⟨rfl, ?_⟩; simp only [nm, digL, dgE, dgP, dgP1, List.cons_append, List.nil_append, List.append_nil] at *; have hA : nearA x0 x1 x2 = x1 ∨ nearA x0 x1 x2 = 0 - x1 := (by unfold nearA; (repeat' split) <;> omega); have hv : nearA x0 x1 x2 = 0 - x1 := (by unfold nearA; (repeat' split) <;> omega); have hu : 0 ≤ ((x1 + x1) - x3) := (by omega); have eq := near_pl (0 - x1) x3 ((x1 + x1) - x3) (x3 + x3) (by omega) (by omega) hu (by omega) (by intro z; exact h11 (by rw [z]; exact dg_zero _)); have eb : decide (2 * nearA x0 x1 x2 + x3 ≤ 0) = true := decide_eq_true (by rw [hv]; omega); have es : (decide (x0 = 0)) = true := (by simp [*]); rw [eb, hv, ← eq, ← es]; rfl
    refine way_cut (.cmp .ne (.app 30 (.cons (.op .rem (.op .sub (.op .add (.var 1) (.var 1)) (.var 3)) (.op .add (.var 3) (.var 3))) (.cons (.lit 5192296858534827628530496329220096) .nil))) (.lit 0)) (fun h12 => ?_) (fun h12 => ?_)
    · skip
      refine way_leaf nearest_n50 ?_
      refine ⟨rfl, ?_⟩; simp only [nm, digL, dgE, dgP, dgP1, List.cons_append, List.nil_append, List.append_nil] at *; have hA : nearA x0 x1 x2 = x1 ∨ nearA x0 x1 x2 = 0 - x1 := (by unfold nearA; (repeat' split) <;> omega); have hv : nearA x0 x1 x2 = 0 - x1 := (by unfold nearA; (repeat' split) <;> omega); have hu : 0 ≤ ((x1 + x1) - x3) := (by omega); have eq := near_pl (0 - x1) x3 ((x1 + x1) - x3) (x3 + x3) (by omega) (by omega) hu (by omega) (by intro z; exact h12 (by rw [z]; exact dg_zero _)); have eb : decide (2 * nearA x0 x1 x2 + x3 ≤ 0) = true := decide_eq_true (by rw [hv]; omega); have es : (decide (x0 = 0)) = true := (by simp [*]); rw [eb, hv, ← eq, ← es]; rfl
    refine way_cut (.cmp .ne (.app 30 (.cons (.op .rem (.op .sub (.op .add (.var 1) (.var 1)) (.var 3)) (.op .add (.var 3) (.var 3))) (.cons (.lit 340282366920938463463374607431768211456) .nil))) (.lit 0)) (fun h13 => ?_) (fun h13 => ?_)
    · skip
      refine way_leaf nearest_n52 ?_
      refine ⟨rfl, ?_⟩; simp only [nm, digL, dgE, dgP, dgP1, List.cons_append, List.nil_append, List.append_nil] at *; have hA : nearA x0 x1 x2 = x1 ∨ nearA x0 x1 x2 = 0 - x1 := (by unfold nearA; (repeat' split) <;> omega); have hv : nearA x0 x1 x2 = 0 - x1 := (by unfold nearA; (repeat' split) <;> omega); have hu : 0 ≤ ((x1 + x1) - x3) := (by omega); have eq := near_pl (0 - x1) x3 ((x1 + x1) - x3) (x3 + x3) (by omega) (by omega) hu (by omega) (by intro z; exact h13 (by rw [z]; exact dg_zero _)); have eb : decide (2 * nearA x0 x1 x2 + x3 ≤ 0) = true := decide_eq_true (by rw [hv]; omega); have es : (decide (x0 = 0)) = true := (by simp [*]); rw [eb, hv, ← eq, ← es]; rfl
    refine way_cut (.cmp .ne (.app 30 (.cons (.op .rem (.op .sub (.op .add (.var 1) (.var 1)) (.var 3)) (.op .add (.var 3) (.var 3))) (.cons (.lit 22300745198530623141535718272648361505980416) .nil))) (.lit 0)) (fun h14 => ?_) (fun h14 => ?_)
    · skip
      refine way_leaf nearest_n54 ?_
      refine ⟨rfl, ?_⟩; simp only [nm, digL, dgE, dgP, dgP1, List.cons_append, List.nil_append, List.append_nil] at *; have hA : nearA x0 x1 x2 = x1 ∨ nearA x0 x1 x2 = 0 - x1 := (by unfold nearA; (repeat' split) <;> omega); have hv : nearA x0 x1 x2 = 0 - x1 := (by unfold nearA; (repeat' split) <;> omega); have hu : 0 ≤ ((x1 + x1) - x3) := (by omega); have eq := near_pl (0 - x1) x3 ((x1 + x1) - x3) (x3 + x3) (by omega) (by omega) hu (by omega) (by intro z; exact h14 (by rw [z]; exact dg_zero _)); have eb : decide (2 * nearA x0 x1 x2 + x3 ≤ 0) = true := decide_eq_true (by rw [hv]; omega); have es : (decide (x0 = 0)) = true := (by simp [*]); rw [eb, hv, ← eq, ← es]; rfl
    refine way_cut (.cmp .ne (.app 30 (.cons (.op .rem (.op .sub (.op .add (.var 1) (.var 1)) (.var 3)) (.op .add (.var 3) (.var 3))) (.cons (.lit 1461501637330902918203684832716283019655932542976) .nil))) (.lit 0)) (fun h15 => ?_) (fun h15 => ?_)
    · skip
      refine way_leaf nearest_n56 ?_
      refine ⟨rfl, ?_⟩; simp only [nm, digL, dgE, dgP, dgP1, List.cons_append, List.nil_append, List.append_nil] at *; have hA : nearA x0 x1 x2 = x1 ∨ nearA x0 x1 x2 = 0 - x1 := (by unfold nearA; (repeat' split) <;> omega); have hv : nearA x0 x1 x2 = 0 - x1 := (by unfold nearA; (repeat' split) <;> omega); have hu : 0 ≤ ((x1 + x1) - x3) := (by omega); have eq := near_pl (0 - x1) x3 ((x1 + x1) - x3) (x3 + x3) (by omega) (by omega) hu (by omega) (by intro z; exact h15 (by rw [z]; exact dg_zero _)); have eb : decide (2 * nearA x0 x1 x2 + x3 ≤ 0) = true := decide_eq_true (by rw [hv]; omega); have es : (decide (x0 = 0)) = true := (by simp [*]); rw [eb, hv, ← eq, ← es]; rfl
    refine way_cut (.cmp .ne (.app 30 (.cons (.op .rem (.op .sub (.op .add (.var 1) (.var 1)) (.var 3)) (.op .add (.var 3) (.var 3))) (.cons (.lit 95780971304118053647396689196894323976171195136475136) .nil))) (.lit 0)) (fun h16 => ?_) (fun h16 => ?_)
    · skip
      refine way_leaf nearest_n58 ?_
      refine ⟨rfl, ?_⟩; simp only [nm, digL, dgE, dgP, dgP1, List.cons_append, List.nil_append, List.append_nil] at *; have hA : nearA x0 x1 x2 = x1 ∨ nearA x0 x1 x2 = 0 - x1 := (by unfold nearA; (repeat' split) <;> omega); have hv : nearA x0 x1 x2 = 0 - x1 := (by unfold nearA; (repeat' split) <;> omega); have hu : 0 ≤ ((x1 + x1) - x3) := (by omega); have eq := near_pl (0 - x1) x3 ((x1 + x1) - x3) (x3 + x3) (by omega) (by omega) hu (by omega) (by intro z; exact h16 (by rw [z]; exact dg_zero _)); have eb : decide (2 * nearA x0 x1 x2 + x3 ≤ 0) = true := decide_eq_true (by rw [hv]; omega); have es : (decide (x0 = 0)) = true := (by simp [*]); rw [eb, hv, ← eq, ← es]; rfl
    refine way_leaf nearest_n59 ?_
    refine ⟨rfl, ?_⟩; simp only [nm, digL, dgE, dgP, dgP1, List.cons_append, List.nil_append, List.append_nil] at *; have hA : nearA x0 x1 x2 = x1 ∨ nearA x0 x1 x2 = 0 - x1 := (by unfold nearA; (repeat' split) <;> omega); have hv : nearA x0 x1 x2 = 0 - x1 := (by unfold nearA; (repeat' split) <;> omega); have hu : 0 ≤ ((x1 + x1) - x3) := (by omega); obtain ⟨w0, w1⟩ := near_low (0 - x1) x3 ((x1 + x1) - x3) (by omega) (by omega) hu; have ed : (x3 + x3) = 2 * x3 := (by omega); have er : (Int.tmod ((x1 + x1) - x3) (x3 + x3)) = ((x1 + x1) - x3) % (2 * x3) := (by rw [ed, Int.tmod_eq_emod_of_nonneg hu]); have hl := near_le (0 - x1) x3 (by omega); have hneg : Fx.near (0 - x1) x3 ≤ 0 := (hl.2 (by omega)).2; have hr : ((x1 + x1) - x3) % (2 * x3) = 0 := (by rw [← er]; have ha := dg_all (Int.tmod ((x1 + x1) - x3) (x3 + x3)) (Int.tmod_nonneg _ hu) (by rw [er]; have := Int.emod_lt_of_pos ((x1 + x1) - x3) (show 0 < 2 * x3 by omega); omega); omega); have eq : (Int.tdiv ((x1 + x1) - x3) (x3 + x3)) = max (Fx.near (0 - x1) x3) (0 - Fx.near (0 - x1) x3) := (by rw [ed, Int.tdiv_eq_ediv_of_nonneg hu, ← w0 hr]; omega); have eb : decide (2 * nearA x0 x1 x2 + x3 ≤ 0) = true := decide_eq_true (by rw [hv]; omega); have es : (decide (x0 = 0)) = true := (by simp [*]); rw [eb, hv, ← eq, ← es]; rfl
  refine way_cut (.cmp .ne (.var 0) (.lit 0)) (fun h1 => ?_) (fun h1 => ?_)
  rotate_left
  · skip
    refine way_leaf nearest_n122 ?_
    refine ⟨rfl, ?_⟩; simp only [nm, digL, dgE, dgP, dgP1, List.cons_append, List.nil_append, List.append_nil] at *; have hA : nearA x0 x1 x2 = x1 ∨ nearA x0 x1 x2 = 0 - x1 := (by unfold nearA; (repeat' split) <;> omega); have hv : nearA x0 x1 x2 = x1 := (by unfold nearA; (repeat' split) <;> omega); have hu : 0 < 2 * (x1) + x3 := (by omega); obtain ⟨u0, u1⟩ := near_up (x1) x3 (by omega) (by omega); have ed : (x3 + x3) = 2 * x3 := (by omega); have eu : ((x1 + x1) + x3) = 2 * (x1) + x3 := (by omega); have eq : (Int.tdiv ((x1 + x1) + x3) (x3 + x3)) = max (Fx.near (x1) x3) (0 - Fx.near (x1) x3) := (by rw [ed, eu, Int.tdiv_eq_ediv_of_nonneg (by omega), ← u1]; omega); have eb : decide (2 * nearA x0 x1 x2 + x3 ≤ 0) = false := decide_eq_false (by rw [hv]; omega); have es : (!decide (x0 = 0)) = false := (by simp [*]); rw [eb, hv, ← eq, ← es]; rfl
  refine way_cut (.cmp .lt (.op .add (.var 1) (.var 1)) (.var 3)) (fun h2 => ?_) (fun h2 => ?_)
  · skip
    refine way_cut (.cmp .le (.lit 0) (.op .sub (.var 3) (.op .add (.var 1) (.var 1)))) (fun h3 => ?_) (fun h3 => ?_)
    · skip
      refine way_leaf nearest_n65 ?_
      refine ⟨rfl, ?_⟩; simp only [nm, digL, dgE, dgP, dgP1, List.cons_append, List.nil_append, List.append_nil] at *; have hA : nearA x0 x1 x2 = x1 ∨ nearA x0 x1 x2 = 0 - x1 := (by unfold nearA; (repeat' split) <;> omega); have hv : nearA x0 x1 x2 = 0 - x1 := (by unfold nearA; (repeat' split) <;> omega); have hu : 0 < 2 * (0 - x1) + x3 := (by omega); obtain ⟨u0, u1⟩ := near_up (0 - x1) x3 (by omega) (by omega); have ed : (x3 + x3) = 2 * x3 := (by omega); have eu : (x3 - (x1 + x1)) = 2 * (0 - x1) + x3 := (by omega); have eq : (Int.tdiv (x3 - (x1 + x1)) (x3 + x3)) = max (Fx.near (0 - x1) x3) (0 - Fx.near (0 - x1) x3) := (by rw [ed, eu, Int.tdiv_eq_ediv_of_nonneg (by omega), ← u1]; omega); have eb : decide (2 * nearA x0 x1 x2 + x3 ≤ 0) = false := decide_eq_false (by rw [hv]; omega); have es : (!decide (x2 = 0)) = false := (by simp [*]); rw [eb, hv, ← eq, ← es]; rfl
    refine way_bad ?_
    simp only [nm, digL, dgE, dgP, dgP1, List.cons_append, List.nil_append, List.append_nil] at *; omega
  refine way_cut (.cmp .lt (.var 3) (.op .add (.var 1) (.var 1))) (fun h3 => ?_) (fun h3 => ?_)
  · skip
    refine way_cut (.cmp .le (.lit 0) (.op .sub (.op .add (.var 1) (.var 1)) (.var 3))) (fun h4 => ?_) (fun h4 => ?_)
    rotate_left
    · skip
      refine way_bad ?_
      simp only [nm, digL, dgE, dgP, dgP1, List.cons_append, List.nil_append, List.append_nil] at *; omega
    refine way_cut (.cmp .ne (.app 30 (.cons (.op .rem (.op .sub (.op .add (.var 1) (.var 1)) (.var 3)) (.op .add (.var 3) (.var 3))) (.cons (.lit 1) .nil))) (.lit 0)) (fun h5 => ?_) (fun h5 => ?_)
    · skip
      refine way_leaf nearest_n70 ?_
      refine ⟨rfl, ?_⟩; simp only [nm, digL, dgE, dgP, dgP1, List.cons_append, List.nil_append, List.append_nil] at *; have hA : nearA x0 x1 x2 = x1 ∨ nearA x0 x1 x2 = 0 - x1 := (by unfold nearA; (repeat' split) <;> omega); have hv : nearA x0 x1 x2 = 0 - x1 := (by unfold nearA; (repeat' split) <;> omega); have hu : 0 ≤ ((x1 + x1) - x3) := (by omega); have eq := near_pl (0 - x1) x3 ((x1 + x1) - x3) (x3 + x3) (by omega) (by omega) hu (by omega) (by intro z; exact h5 (by rw [z]; exact dg_zero _)); have eb : decide (2 * nearA x0 x1 x2 + x3 ≤ 0) = true := decide_eq_true (by rw [hv]; omega); have es : (!decide (x0 = 0)) = true := (by simp [*]); rw [eb, hv, ← eq, ← es]; rfl
    refine way_cut (.cmp .ne (.app 30 (.cons (.op .rem (.op .sub (.op .add (.var 1) (.var 1)) (.var 3)) (.op .add (.var 3) (.var 3))) (.cons (.lit 65536) .nil))) (.lit 0)) (fun h6 => ?_) (fun h6 => ?_)
    · skip
      refine way_leaf nearest_n72 ?_
      refine ⟨rfl, ?_⟩; simp only [nm, digL, dgE, dgP, dgP1, List.cons_append, List.nil_append, List.append_nil] at *; have hA : nearA x0 x1 x2 = x1 ∨ nearA x0 x1 x2 = 0 - x1 := (by unfold nearA; (repeat' split) <;> omega); have hv : nearA x0 x1 x2 = 0 - x1 := (by unfold nearA; (repeat' split) <;> omega); have hu : 0 ≤ ((x1 + x1) - x3) := (by omega); have eq := near_pl (0 - x1) x3 ((x1 + x1) - x3) (x3 + x3) (by omega) (by omega) hu (by omega) (by intro z; exact h6 (by rw [z]; exact dg_zero _)); have eb : decide (2 * nearA x0 x1 x2 + x3 ≤ 0) = true := decide_eq_true (by rw [hv]; omega); have es : (!decide (x0 = 0)) = true := (by simp [*]); rw [eb, hv, ← eq, ← es]; rfl
    refine way_cut (.cmp .ne (.app 30 (.cons (.op .rem (.op .sub (.op .add (.var 1) (.var 1)) (.var 3)) (.op .add (.var 3) (.var 3))) (.cons (.lit 4294967296) .nil))) (.lit 0)) (fun h7 => ?_) (fun h7 => ?_)
    · skip
      refine way_leaf nearest_n74 ?_
      refine ⟨rfl, ?_⟩; simp only [nm, digL, dgE, dgP, dgP1, List.cons_append, List.nil_append, List.append_nil] at *; have hA : nearA x0 x1 x2 = x1 ∨ nearA x0 x1 x2 = 0 - x1 := (by unfold nearA; (repeat' split) <;> omega); have hv : nearA x0 x1 x2 = 0 - x1 := (by unfold nearA; (repeat' split) <;> omega); have hu : 0 ≤ ((x1 + x1) - x3) := (by omega); have eq := near_pl (0 - x1) x3 ((x1 + x1) - x3) (x3 + x3) (by omega) (by omega) hu (by omega) (by intro z; exact h7 (by rw [z]; exact dg_zero _)); have eb : decide (2 * nearA x0 x1 x2 + x3 ≤ 0) = true := decide_eq_true (by rw [hv]; omega); have es : (!decide (x0 = 0)) = true := (by simp [*]); rw [eb, hv, ← eq, ← es]; rfl
    refine way_cut (.cmp .ne (.app 30 (.cons (.op .rem (.op .sub (.op .add (.var 1) (.var 1)) (.var 3)) (.op .add (.var 3) (.var 3))) (.cons (.lit 281474976710656) .nil))) (.lit 0)) (fun h8 => ?_) (fun h8 => ?_)
    · skip
      refine way_leaf nearest_n76 ?_
      refine ⟨rfl, ?_⟩; simp only [nm, digL, dgE, dgP, dgP1, List.cons_append, List.nil_append, List.append_nil] at *; have hA : nearA x0 x1 x2 = x1 ∨ nearA x0 x1 x2 = 0 - x1 := (by unfold nearA; (repeat' split) <;> omega); have hv : nearA x0 x1 x2 = 0 - x1 := (by unfold nearA; (repeat' split) <;> omega); have hu : 0 ≤ ((x1 + x1) - x3) := (by omega); have eq := near_pl (0 - x1) x3 ((x1 + x1) - x3) (x3 + x3) (by omega) (by omega) hu (by omega) (by intro z; exact h8 (by rw [z]; exact dg_zero _)); have eb : decide (2 * nearA x0 x1 x2 + x3 ≤ 0) = true := decide_eq_true (by rw [hv]; omega); have es : (!decide (x0 = 0)) = true := (by simp [*]); rw [eb, hv, ← eq, ← es]; rfl
    refine way_cut (.cmp .ne (.app 30 (.cons (.op .rem (.op .sub (.op .add (.var 1) (.var 1)) (.var 3)) (.op .add (.var 3) (.var 3))) (.cons (.lit 18446744073709551616) .nil))) (.lit 0)) (fun h9 => ?_) (fun h9 => ?_)
    · skip
      refine way_leaf nearest_n78 ?_
      refine ⟨rfl, ?_⟩; simp only [nm, digL, dgE, dgP, dgP1, List.cons_append, List.nil_append, List.append_nil] at *; have hA : nearA x0 x1 x2 = x1 ∨ nearA x0 x1 x2 = 0 - x1 := (by unfold nearA; (repeat' split) <;> omega); have hv : nearA x0 x1 x2 = 0 - x1 := (by unfold nearA; (repeat' split) <;> omega); have hu : 0 ≤ ((x1 + x1) - x3) := (by omega); have eq := near_pl (0 - x1) x3 ((x1 + x1) - x3) (x3 + x3) (by omega) (by omega) hu (by omega) (by intro z; exact h9 (by rw [z]; exact dg_zero _)); have eb : decide (2 * nearA x0 x1 x2 + x3 ≤ 0) = true := decide_eq_true (by rw [hv]; omega); have es : (!decide (x0 = 0)) = true := (by simp [*]); rw [eb, hv, ← eq, ← es]; rfl
    refine way_cut (.cmp .ne (.app 30 (.cons (.op .rem (.op .sub (.op .add (.var 1) (.var 1)) (.var 3)) (.op .add (.var 3) (.var 3))) (.cons (.lit 1208925819614629174706176) .nil))) (.lit 0)) (fun h10 => ?_) (fun h10 => ?_)
    · skip
      refine way_leaf nearest_n80 ?_
      refine ⟨rfl, ?_⟩; simp only [nm, digL, dgE, dgP, dgP1, List.cons_append, List.nil_append, List.append_nil] at *; have hA : nearA x0 x1 x2 = x1 ∨ nearA x0 x1 x2 = 0 - x1 := (by unfold nearA; (repeat' split) <;> omega); have hv : nearA x0 x1 x2 = 0 - x1 := (by unfold nearA; (repeat' split) <;> omega); have hu : 0 ≤ ((x1 + x1) - x3) := (by omega); have eq := near_pl (0 - x1) x3 ((x1 + x1) - x3) (x3 + x3) (by omega) (by omega) hu (by omega) (by intro z; exact h10 (by rw [z]; exact dg_zero _)); have eb : decide (2 * nearA x0 x1 x2 + x3 ≤ 0) = true := decide_eq_true (by rw [hv]; omega); have es : (!decide (x0 = 0)) = true := (by simp [*]); rw [eb, hv, ← eq, ← es]; rfl
    refine way_cut (.cmp .ne (.app 30 (.cons (.op .rem (.op .sub (.op .add (.var 1) (.var 1)) (.var 3)) (.op .add (.var 3) (.var 3))) (.cons (.lit 79228162514264337593543950336) .nil))) (.lit 0)) (fun h11 => ?_) (fun h11 => ?_)
    · skip
      refine way_leaf nearest_n82 ?_
      refine ⟨rfl, ?_⟩; simp only [nm, digL, dgE, dgP, dgP1, List.cons_append, List.nil_append, List.append_nil] at *; have hA : nearA x0 x1 x2 = x1 ∨ nearA x0 x1 x2 = 0 - x1 := (by unfold nearA; (repeat' split) <;> omega); have hv : nearA x0 x1 x2 = 0 - x1 := (by unfold nearA; (repeat' split) <;> omega); have hu : 0 ≤ ((x1 + x1) - x3) := (by omega); have eq := near_pl (0 - x1) x3 ((x1 + x1) - x3) (x3 + x3) (by omega) (by omega) hu (by omega) (by intro z; exact h11 (by rw [z]; exact dg_zero _)); have eb : decide (2 * nearA x0 x1 x2 + x3 ≤ 0) = true := decide_eq_true (by rw [hv]; omega); have es : (!decide (x0 = 0)) = true := (by simp [*]); rw [eb, hv, ← eq, ← es]; rfl
    refine way_cut (.cmp .ne (.app 30 (.cons (.op .rem (.op .sub (.op .add (.var 1) (.var 1)) (.var 3)) (.op .add (.var 3) (.var 3))) (.cons (.lit 5192296858534827628530496329220096) .nil))) (.lit 0)) (fun h12 => ?_) (fun h12 => ?_)
    · skip
      refine way_leaf nearest_n84 ?_
      refine ⟨rfl, ?_⟩; simp only [nm, digL, dgE, dgP, dgP1, List.cons_append, List.nil_append, List.append_nil] at *; have hA : nearA x0 x1 x2 = x1 ∨ nearA x0 x1 x2 = 0 - x1 := (by unfold nearA; (repeat' split) <;> omega); have hv : nearA x0 x1 x2 = 0 - x1 := (by unfold nearA; (repeat' split) <;> omega); have hu : 0 ≤ ((x1 + x1) - x3) := (by omega); have eq := near_pl (0 - x1) x3 ((x1 + x1) - x3) (x3 + x3) (by omega) (by omega) hu (by omega) (by intro z; exact h12 (by rw [z]; exact dg_zero _)); have eb : decide (2 * nearA x0 x1 x2 + x3 ≤ 0) = true := decide_eq_true (by rw [hv]; omega); have es : (!decide (x0 = 0)) = true := (by simp [*]); rw [eb, hv, ← eq, ← es]; rfl
    refine way_cut (.cmp .ne (.app 30 (.cons (.op .rem (.op .sub (.op .add (.var 1) (.var 1)) (.var 3)) (.op .add (.var 3) (.var 3))) (.cons (.lit 340282366920938463463374607431768211456) .nil))) (.lit 0)) (fun h13 => ?_) (fun h13 => ?_)
    · skip
      refine way_leaf nearest_n86 ?_
      refine ⟨rfl, ?_⟩; simp only [nm, digL, dgE, dgP, dgP1, List.cons_append, List.nil_append, List.append_nil] at *; have hA : nearA x0 x1 x2 = x1 ∨ nearA x0 x1 x2 = 0 - x1 := (by unfold nearA; (repeat' split) <;> omega); have hv : nearA x0 x1 x2 = 0 - x1 := (by unfold nearA; (repeat' split) <;> omega); have hu : 0 ≤ ((x1 + x1) - x3) := (by omega); have eq := near_pl (0 - x1) x3 ((x1 + x1) - x3) (x3 + x3) (by omega) (by omega) hu (by omega) (by intro z; exact h13 (by rw [z]; exact dg_zero _)); have eb : decide (2 * nearA x0 x1 x2 + x3 ≤ 0) = true := decide_eq_true (by rw [hv]; omega); have es : (!decide (x0 = 0)) = true := (by simp [*]); rw [eb, hv, ← eq, ← es]; rfl
    refine way_cut (.cmp .ne (.app 30 (.cons (.op .rem (.op .sub (.op .add (.var 1) (.var 1)) (.var 3)) (.op .add (.var 3) (.var 3))) (.cons (.lit 22300745198530623141535718272648361505980416) .nil))) (.lit 0)) (fun h14 => ?_) (fun h14 => ?_)
    · skip
      refine way_leaf nearest_n88 ?_
      refine ⟨rfl, ?_⟩; simp only [nm, digL, dgE, dgP, dgP1, List.cons_append, List.nil_append, List.append_nil] at *; have hA : nearA x0 x1 x2 = x1 ∨ nearA x0 x1 x2 = 0 - x1 := (by unfold nearA; (repeat' split) <;> omega); have hv : nearA x0 x1 x2 = 0 - x1 := (by unfold nearA; (repeat' split) <;> omega); have hu : 0 ≤ ((x1 + x1) - x3) := (by omega); have eq := near_pl (0 - x1) x3 ((x1 + x1) - x3) (x3 + x3) (by omega) (by omega) hu (by omega) (by intro z; exact h14 (by rw [z]; exact dg_zero _)); have eb : decide (2 * nearA x0 x1 x2 + x3 ≤ 0) = true := decide_eq_true (by rw [hv]; omega); have es : (!decide (x0 = 0)) = true := (by simp [*]); rw [eb, hv, ← eq, ← es]; rfl
    refine way_cut (.cmp .ne (.app 30 (.cons (.op .rem (.op .sub (.op .add (.var 1) (.var 1)) (.var 3)) (.op .add (.var 3) (.var 3))) (.cons (.lit 1461501637330902918203684832716283019655932542976) .nil))) (.lit 0)) (fun h15 => ?_) (fun h15 => ?_)
    · skip
      refine way_leaf nearest_n90 ?_
      refine ⟨rfl, ?_⟩; simp only [nm, digL, dgE, dgP, dgP1, List.cons_append, List.nil_append, List.append_nil] at *; have hA : nearA x0 x1 x2 = x1 ∨ nearA x0 x1 x2 = 0 - x1 := (by unfold nearA; (repeat' split) <;> omega); have hv : nearA x0 x1 x2 = 0 - x1 := (by unfold nearA; (repeat' split) <;> omega); have hu : 0 ≤ ((x1 + x1) - x3) := (by omega); have eq := near_pl (0 - x1) x3 ((x1 + x1) - x3) (x3 + x3) (by omega) (by omega) hu (by omega) (by intro z; exact h15 (by rw [z]; exact dg_zero _)); have eb : decide (2 * nearA x0 x1 x2 + x3 ≤ 0) = true := decide_eq_true (by rw [hv]; omega); have es : (!decide (x0 = 0)) = true := (by simp [*]); rw [eb, hv, ← eq, ← es]; rfl
    refine way_cut (.cmp .ne (.app 30 (.cons (.op .rem (.op .sub (.op .add (.var 1) (.var 1)) (.var 3)) (.op .add (.var 3) (.var 3))) (.cons (.lit 95780971304118053647396689196894323976171195136475136) .nil))) (.lit 0)) (fun h16 => ?_) (fun h16 => ?_)
    · skip
      refine way_leaf nearest_n92 ?_
      refine ⟨rfl, ?_⟩; simp only [nm, digL, dgE, dgP, dgP1, List.cons_append, List.nil_append, List.append_nil] at *; have hA : nearA x0 x1 x2 = x1 ∨ nearA x0 x1 x2 = 0 - x1 := (by unfold nearA; (repeat' split) <;> omega); have hv : nearA x0 x1 x2 = 0 - x1 := (by unfold nearA; (repeat' split) <;> omega); have hu : 0 ≤ ((x1 + x1) - x3) := (by omega); have eq := near_pl (0 - x1) x3 ((x1 + x1) - x3) (x3 + x3) (by omega) (by omega) hu (by omega) (by intro z; exact h16 (by rw [z]; exact dg_zero _)); have eb : decide (2 * nearA x0 x1 x2 + x3 ≤ 0) = true := decide_eq_true (by rw [hv]; omega); have es : (!decide (x0 = 0)) = true := (by simp [*]); rw [eb, hv, ← eq, ← es]; rfl
    refine way_leaf nearest_n93 ?_
    refine ⟨rfl, ?_⟩; simp only [nm, digL, dgE, dgP, dgP1, List.cons_append, List.nil_append, List.append_nil] at *; have hA : nearA x0 x1 x2 = x1 ∨ nearA x0 x1 x2 = 0 - x1 := (by unfold nearA; (repeat' split) <;> omega); have hv : nearA x0 x1 x2 = 0 - x1 := (by unfold nearA; (repeat' split) <;> omega); have hu : 0 ≤ ((x1 + x1) - x3) := (by omega); obtain ⟨w0, w1⟩ := near_low (0 - x1) x3 ((x1 + x1) - x3) (by omega) (by omega) hu; have ed : (x3 + x3) = 2 * x3 := (by omega); have er : (Int.tmod ((x1 + x1) - x3) (x3 + x3)) = ((x1 + x1) - x3) % (2 * x3) := (by rw [ed, Int.tmod_eq_emod_of_nonneg hu]); have hl := near_le (0 - x1) x3 (by omega); have hneg : Fx.near (0 - x1) x3 ≤ 0 := (hl.2 (by omega)).2; have hr : ((x1 + x1) - x3) % (2 * x3) = 0 := (by rw [← er]; have ha := dg_all (Int.tmod ((x1 + x1) - x3) (x3 + x3)) (Int.tmod_nonneg _ hu) (by rw [er]; have := Int.emod_lt_of_pos ((x1 + x1) - x3) (show 0 < 2 * x3 by omega); omega); omega); have eq : (Int.tdiv ((x1 + x1) - x3) (x3 + x3)) = max (Fx.near (0 - x1) x3) (0 - Fx.near (0 - x1) x3) := (by rw [ed, Int.tdiv_eq_ediv_of_nonneg hu, ← w0 hr]; omega); have eb : decide (2 * nearA x0 x1 x2 + x3 ≤ 0) = true := decide_eq_true (by rw [hv]; omega); have es : (!decide (x0 = 0)) = true := (by simp [*]); rw [eb, hv, ← eq, ← es]; rfl
  refine way_cut (.cmp .le (.lit 0) (.op .sub (.op .add (.var 1) (.var 1)) (.var 3))) (fun h4 => ?_) (fun h4 => ?_)
  rotate_left
  · skip
    refine way_bad ?_
    simp only [nm, digL, dgE, dgP, dgP1, List.cons_append, List.nil_append, List.append_nil] at *; omega
  refine way_cut (.cmp .ne (.app 30 (.cons (.op .rem (.op .sub (.op .add (.var 1) (.var 1)) (.var 3)) (.op .add (.var 3) (.var 3))) (.cons (.lit 1) .nil))) (.lit 0)) (fun h5 => ?_) (fun h5 => ?_)
  · skip
    refine way_leaf nearest_n97 ?_
    refine ⟨rfl, ?_⟩; simp only [nm, digL, dgE, dgP, dgP1, List.cons_append, List.nil_append, List.append_nil] at *; have hA : nearA x0 x1 x2 = x1 ∨ nearA x0 x1 x2 = 0 - x1 := (by unfold nearA; (repeat' split) <;> omega); have hv : nearA x0 x1 x2 = 0 - x1 := (by unfold nearA; (repeat' split) <;> omega); have hu : 0 ≤ ((x1 + x1) - x3) := (by omega); have eq := near_pl (0 - x1) x3 ((x1 + x1) - x3) (x3 + x3) (by omega) (by omega) hu (by omega) (by intro z; exact h5 (by rw [z]; exact dg_zero _)); have eb : decide (2 * nearA x0 x1 x2 + x3 ≤ 0) = true := decide_eq_true (by rw [hv]; omega); have es : (!decide (x0 = 0)) = true := (by simp [*]); rw [eb, hv, ← eq, ← es]; rfl
  refine way_cut (.cmp .ne (.app 30 (.cons (.op .rem (.op .sub (.op .add (.var 1) (.var 1)) (.var 3)) (.op .add (.var 3) (.var 3))) (.cons (.lit 65536) .nil))) (.lit 0)) (fun h6 => ?_) (fun h6 => ?_)
  · skip
    refine way_leaf nearest_n99 ?_
    refine ⟨rfl, ?_⟩; simp only [nm, digL, dgE, dgP, dgP1, List.cons_append, List.nil_append, List.append_nil] at *; have hA : nearA x0 x1 x2 = x1 ∨ nearA x0 x1 x2 = 0 - x1 := (by unfold nearA; (repeat' split) <;> omega); have hv : nearA x0 x1 x2 = 0 - x1 := (by unfold nearA; (repeat' split) <;> omega); have hu : 0 ≤ ((x1 + x1) - x3) := (by omega); have eq := near_pl (0 - x1) x3 ((x1 + x1) - x3) (x3 + x3) (by omega) (by omega) hu (by omega) (by intro z; exact h6 (by rw [z]; exact dg_zero _)); have eb : decide (2 * nearA x0 x1 x2 + x3 ≤ 0) = true := decide_eq_true (by rw [hv]; omega); have es : (!decide (x0 = 0)) = true := (by simp [*]); rw [eb, hv, ← eq, ← es]; rfl
  refine way_cut (.cmp .ne (.app 30 (.cons (.op .rem (.op .sub (.op .add (.var 1) (.var 1)) (.var 3)) (.op .add (.var 3) (.var 3))) (.cons (.lit 4294967296) .nil))) (.lit 0)) (fun h7 => ?_) (fun h7 => ?_)
  · skip
    refine way_leaf nearest_n101 ?_
    refine ⟨rfl, ?_⟩; simp only [nm, digL, dgE, dgP, dgP1, List.cons_append, List.nil_append, List.append_nil] at *; have hA : nearA x0 x1 x2 = x1 ∨ nearA x0 x1 x2 = 0 - x1 := (by unfold nearA; (repeat' split) <;> omega); have hv : nearA x0 x1 x2 = 0 - x1 := (by unfold nearA; (repeat' split) <;> omega); have hu : 0 ≤ ((x1 + x1) - x3) := (by omega); have eq := near_pl (0 - x1) x3 ((x1 + x1) - x3) (x3 + x3) (by omega) (by omega) hu (by omega) (by intro z; exact h7 (by rw [z]; exact dg_zero _)); have eb : decide (2 * nearA x0 x1 x2 + x3 ≤ 0) = true := decide_eq_true (by rw [hv]; omega); have es : (!decide (x0 = 0)) = true := (by simp [*]); rw [eb, hv, ← eq, ← es]; rfl
  refine way_cut (.cmp .ne (.app 30 (.cons (.op .rem (.op .sub (.op .add (.var 1) (.var 1)) (.var 3)) (.op .add (.var 3) (.var 3))) (.cons (.lit 281474976710656) .nil))) (.lit 0)) (fun h8 => ?_) (fun h8 => ?_)
  · skip
    refine way_leaf nearest_n103 ?_
    refine ⟨rfl, ?_⟩; simp only [nm, digL, dgE, dgP, dgP1, List.cons_append, List.nil_append, List.append_nil] at *; have hA : nearA x0 x1 x2 = x1 ∨ nearA x0 x1 x2 = 0 - x1 := (by unfold nearA; (repeat' split) <;> omega); have hv : nearA x0 x1 x2 = 0 - x1 := (by unfold nearA; (repeat' split) <;> omega); have hu : 0 ≤ ((x1 + x1) - x3) := (by omega); have eq := near_pl (0 - x1) x3 ((x1 + x1) - x3) (x3 + x3) (by omega) (by omega) hu (by omega) (by intro z; exact h8 (by rw [z]; exact dg_zero _)); have eb : decide (2 * nearA x0 x1 x2 + x3 ≤ 0) = true := decide_eq_true (by rw [hv]; omega); have es : (!decide (x0 = 0)) = true := (by simp [*]); rw [eb, hv, ← eq, ← es]; rfl
  refine way_cut (.cmp .ne (.app 30 (.cons (.op .rem (.op .sub (.op .add (.var 1) (.var 1)) (.var 3)) (.op .add (.var 3) (.var 3))) (.cons (.lit 18446744073709551616) .nil))) (.lit 0)) (fun h9 => ?_) (fun h9 => ?_)
  · skip
    refine way_leaf nearest_n105 ?_
    refine ⟨rfl, ?_⟩; simp only [nm, digL, dgE, dgP, dgP1, List.cons_append, List.nil_append, List.append_nil] at *; have hA : nearA x0 x1 x2 = x1 ∨ nearA x0 x1 x2 = 0 - x1 := (by unfold nearA; (repeat' split) <;> omega); have hv : nearA x0 x1 x2 = 0 - x1 := (by unfold nearA; (repeat' split) <;> omega); have hu : 0 ≤ ((x1 + x1) - x3) := (by omega); have eq := near_pl (0 - x1) x3 ((x1 + x1) - x3) (x3 + x3) (by omega) (by omega) hu (by omega) (by intro z; exact h9 (by rw [z]; exact dg_zero _)); have eb : decide (2 * nearA x0 x1 x2 + x3 ≤ 0) = true := decide_eq_true (by rw [hv]; omega); have es : (!decide (x0 = 0)) = true := (by simp [*]); rw [eb, hv, ← eq, ← es]; rfl
  refine way_cut (.cmp .ne (.app 30 (.cons (.op .rem (.op .sub (.op .add (.var 1) (.var 1)) (.var 3)) (.op .add (.var 3) (.var 3))) (.cons (.lit 1208925819614629174706176) .nil))) (.lit 0)) (fun h10 => ?_) (fun h10 => ?_)
  · skip
    refine way_leaf nearest_n107 ?_
    refine ⟨rfl, ?_⟩; simp only [nm, digL, dgE, dgP, dgP1, List.cons_append, List.nil_append, List.append_nil] at *; have hA : nearA x0 x1 x2 = x1 ∨ nearA x0 x1 x2 = 0 - x1 := (by unfold nearA; (repeat' split) <;> omega); have hv : nearA x0 x1 x2 = 0 - x1 := (by unfold nearA; (repeat' split) <;> omega); have hu : 0 ≤ ((x1 + x1) - x3) := (by omega); have eq := near_pl (0 - x1) x3 ((x1 + x1) - x3) (x3 + x3) (by omega) (by omega) hu (by omega) (by intro z; exact h10 (by rw [z]; exact dg_zero _)); have eb : decide (2 * nearA x0 x1 x2 + x3 ≤ 0) = true := decide_eq_true (by rw [hv]; omega); have es : (!decide (x0 = 0)) = true := (by simp [*]); rw [eb, hv, ← eq, ← es]; rfl
  refine way_cut (.cmp .ne (.app 30 (.cons (.op .rem (.op .sub (.op .add (.var 1) (.var 1)) (.var 3)) (.op .add (.var 3) (.var 3))) (.cons (.lit 79228162514264337593543950336) .nil))) (.lit 0)) (fun h11 => ?_) (fun h11 => ?_)
  · skip
    refine way_leaf nearest_n109 ?_
    refine ⟨rfl, ?_⟩; simp only [nm, digL, dgE, dgP, dgP1, List.cons_append, List.nil_append, List.append_nil] at *; have hA : nearA x0 x1 x2 = x1 ∨ nearA x0 x1 x2 = 0 - x1 := (by unfold nearA; (repeat' split) <;> omega); have hv : nearA x0 x1 x2 = 0 - x1 := (by unfold nearA; (repeat' split) <;> omega); have hu : 0 ≤ ((x1 + x1) - x3) := (by omega); have eq := near_pl (0 - x1) x3 ((x1 + x1) - x3) (x3 + x3) (by omega) (by omega) hu (by omega) (by intro z; exact h11 (by rw [z]; exact dg_zero _)); have eb : decide (2 * nearA x0 x1 x2 + x3 ≤ 0) = true := decide_eq_true (by rw [hv]; omega); have es : (!decide (x0 = 0)) = true := (by simp [*]); rw [eb, hv, ← eq, ← es]; rfl
  refine way_cut (.cmp .ne (.app 30 (.cons (.op .rem (.op .sub (.op .add (.var 1) (.var 1)) (.var 3)) (.op .add (.var 3) (.var 3))) (.cons (.lit 5192296858534827628530496329220096) .nil))) (.lit 0)) (fun h12 => ?_) (fun h12 => ?_)
  · skip
    refine way_leaf nearest_n111 ?_
    refine ⟨rfl, ?_⟩; simp only [nm, digL, dgE, dgP, dgP1, List.cons_append, List.nil_append, List.append_nil] at *; have hA : nearA x0 x1 x2 = x1 ∨ nearA x0 x1 x2 = 0 - x1 := (by unfold nearA; (repeat' split) <;> omega); have hv : nearA x0 x1 x2 = 0 - x1 := (by unfold nearA; (repeat' split) <;> omega); have hu : 0 ≤ ((x1 + x1) - x3) := (by omega); have eq := near_pl (0 - x1) x3 ((x1 + x1) - x3) (x3 + x3) (by omega) (by omega) hu (by omega) (by intro z; exact h12 (by rw [z]; exact dg_zero _)); have eb : decide (2 * nearA x0 x1 x2 + x3 ≤ 0) = true := decide_eq_true (by rw [hv]; omega); have es : (!decide (x0 = 0)) = true := (by simp [*]); rw [eb, hv, ← eq, ← es]; rfl
  refine way_cut (.cmp .ne (.app 30 (.cons (.op .rem (.op .sub (.op .add (.var 1) (.var 1)) (.var 3)) (.op .add (.var 3) (.var 3))) (.cons (.lit 340282366920938463463374607431768211456) .nil))) (.lit 0)) (fun h13 => ?_) (fun h13 => ?_)
  · skip
    refine way_leaf nearest_n113 ?_
    refine ⟨rfl, ?_⟩; simp only [nm, digL, dgE, dgP, dgP1, List.cons_append, List.nil_append, List.append_nil] at *; have hA : nearA x0 x1 x2 = x1 ∨ nearA x0 x1 x2 = 0 - x1 := (by unfold nearA; (repeat' split) <;> omega); have hv : nearA x0 x1 x2 = 0 - x1 := (by unfold nearA; (repeat' split) <;> omega); have hu : 0 ≤ ((x1 + x1) - x3) := (by omega); have eq := near_pl (0 - x1) x3 ((x1 + x1) - x3) (x3 + x3) (by omega) (by omega) hu (by omega) (by intro z; exact h13 (by rw [z]; exact dg_zero _)); have eb : decide (2 * nearA x0 x1 x2 + x3 ≤ 0) = true := decide_eq_true (by rw [hv]; omega); have es : (!decide (x0 = 0)) = true := (by simp [*]); rw [eb, hv, ← eq, ← es]; rfl
  refine way_cut (.cmp .ne (.app 30 (.cons (.op .rem (.op .sub (.op .add (.var 1) (.var 1)) (.var 3)) (.op .add (.var 3) (.var 3))) (.cons (.lit 22300745198530623141535718272648361505980416) .nil))) (.lit 0)) (fun h14 => ?_) (fun h14 => ?_)
  · skip
    refine way_leaf nearest_n115 ?_
    refine ⟨rfl, ?_⟩; simp only [nm, digL, dgE, dgP, dgP1, List.cons_append, List.nil_append, List.append_nil] at *; have hA : nearA x0 x1 x2 = x1 ∨ nearA x0 x1 x2 = 0 - x1 := (by unfold nearA; (repeat' split) <;> omega); have hv : nearA x0 x1 x2 = 0 - x1 := (by unfold nearA; (repeat' split) <;> omega); have hu : 0 ≤ ((x1 + x1) - x3) := (by omega); have eq := near_pl (0 - x1) x3 ((x1 + x1) - x3) (x3 + x3) (by omega) (by omega) hu (by omega) (by intro z; exact h14 (by rw [z]; exact dg_zero _)); have eb : decide (2 * nearA x0 x1 x2 + x3 ≤ 0) = true := decide_eq_true (by rw [hv]; omega); have es : (!decide (x0 = 0)) = true := (by simp [*]); rw [eb, hv, ← eq, ← es]; rfl
  refine way_cut (.cmp .ne (.app 30 (.cons (.op .rem (.op .sub (.op .add (.var 1) (.var 1)) (.var 3)) (.op .add (.var 3) (.var 3))) (.cons (.lit 1461501637330902918203684832716283019655932542976) .nil))) (.lit 0)) (fun h15 => ?_) (fun h15 => ?_)
  · skip
    refine way_leaf nearest_n117 ?_
    refine ⟨rfl, ?_⟩; simp only [nm, digL, dgE, dgP, dgP1, List.cons_append, List.nil_append, List.append_nil] at *; have hA : nearA x0 x1 x2 = x1 ∨ nearA x0 x1 x2 = 0 - x1 := (by unfold nearA; (repeat' split) <;> omega); have hv : nearA x0 x1 x2 = 0 - x1 := (by unfold nearA; (repeat' split) <;> omega); have hu : 0 ≤ ((x1 + x1) - x3) := (by omega); have eq := near_pl (0 - x1) x3 ((x1 + x1) - x3) (x3 + x3) (by omega) (by omega) hu (by omega) (by intro z; exact h15 (by rw [z]; exact dg_zero _)); have eb : decide (2 * nearA x0 x1 x2 + x3 ≤ 0) = true := decide_eq_true (by rw [hv]; omega); have es : (!decide (x0 = 0)) = true := (by simp [*]); rw [eb, hv, ← eq, ← es]; rfl
  refine way_cut (.cmp .ne (.app 30 (.cons (.op .rem (.op .sub (.op .add (.var 1) (.var 1)) (.var 3)) (.op .add (.var 3) (.var 3))) (.cons (.lit 95780971304118053647396689196894323976171195136475136) .nil))) (.lit 0)) (fun h16 => ?_) (fun h16 => ?_)
  · skip
    refine way_leaf nearest_n119 ?_
    refine ⟨rfl, ?_⟩; simp only [nm, digL, dgE, dgP, dgP1, List.cons_append, List.nil_append, List.append_nil] at *; have hA : nearA x0 x1 x2 = x1 ∨ nearA x0 x1 x2 = 0 - x1 := (by unfold nearA; (repeat' split) <;> omega); have hv : nearA x0 x1 x2 = 0 - x1 := (by unfold nearA; (repeat' split) <;> omega); have hu : 0 ≤ ((x1 + x1) - x3) := (by omega); have eq := near_pl (0 - x1) x3 ((x1 + x1) - x3) (x3 + x3) (by omega) (by omega) hu (by omega) (by intro z; exact h16 (by rw [z]; exact dg_zero _)); have eb : decide (2 * nearA x0 x1 x2 + x3 ≤ 0) = true := decide_eq_true (by rw [hv]; omega); have es : (!decide (x0 = 0)) = true := (by simp [*]); rw [eb, hv, ← eq, ← es]; rfl
  refine way_leaf nearest_n120 ?_
  refine ⟨rfl, ?_⟩; simp only [nm, digL, dgE, dgP, dgP1, List.cons_append, List.nil_append, List.append_nil] at *; have hA : nearA x0 x1 x2 = x1 ∨ nearA x0 x1 x2 = 0 - x1 := (by unfold nearA; (repeat' split) <;> omega); have hv : nearA x0 x1 x2 = 0 - x1 := (by unfold nearA; (repeat' split) <;> omega); have hu : 0 ≤ ((x1 + x1) - x3) := (by omega); obtain ⟨w0, w1⟩ := near_low (0 - x1) x3 ((x1 + x1) - x3) (by omega) (by omega) hu; have ed : (x3 + x3) = 2 * x3 := (by omega); have er : (Int.tmod ((x1 + x1) - x3) (x3 + x3)) = ((x1 + x1) - x3) % (2 * x3) := (by rw [ed, Int.tmod_eq_emod_of_nonneg hu]); have hl := near_le (0 - x1) x3 (by omega); have hneg : Fx.near (0 - x1) x3 ≤ 0 := (hl.2 (by omega)).2; have hr : ((x1 + x1) - x3) % (2 * x3) = 0 := (by rw [← er]; have ha := dg_all (Int.tmod ((x1 + x1) - x3) (x3 + x3)) (Int.tmod_nonneg _ hu) (by rw [er]; have := Int.emod_lt_of_pos ((x1 + x1) - x3) (show 0 < 2 * x3 by omega); omega); omega); have eq : (Int.tdiv ((x1 + x1) - x3) (x3 + x3)) = max (Fx.near (0 - x1) x3) (0 - Fx.near (0 - x1) x3) := (by rw [ed, Int.tdiv_eq_ediv_of_nonneg hu, ← w0 hr]; omega); have eb : decide (2 * nearA x0 x1 x2 + x3 ≤ 0) = true := decide_eq_true (by rw [hv]; omega); have es : (!decide (x0 = 0)) = true := (by simp [*]); rw [eb, hv, ← eq, ← es]; rfl
def small_entry : Entry := fun X args =>
  match args with
  | [.int .i64 a] => if a.fits X .i64 then (Res.test X (.cmp .lt a (.lit 0))).bind fun t => if t then .ok (.agg (.bool (.lit true) :: digL (E.mkOp .sub (.lit 0) a))) else .ok (.agg (.bool (.lit false) :: digL a)) else .fail 225
  | _ => .fail 201
set_option maxRecDepth 100000 in
theorem small_ok {X : Ctx} {ρ : Nat → Int} (hX : X.Ok ρ) (hG : X.G = G) : EntryOk Tryd.prog X ρ GB 50 small_entry := by
  obtain ⟨XG, XI, XV, XF⟩ := X
  simp only at hG
  subst hG
  intro args s h α w vals hv hw
  unfold small_entry at h
  split at h
  · rename_i a
    split at h
    · rename_i hg
      replace h := Res.bind_ok h; obtain ⟨t, ht, h⟩ := h
      have ht := Res.test_ok hX ht
      have k := small_any (a.den G ρ) (E.fits_in hX hg) w hw
      cases t with
      | true =>
        cases h
        simp only [B.den, cop_lt, decide_eq_true_eq, E.den] at ht
        refine entry_calls hv rfl rfl ?_
        rw [if_pos ht, decide_eq_true ht] at k
        have e2 : SV.den G ρ (.agg (.bool (.lit true) :: digL (E.mkOp .sub (.lit 0) a))) = .agg (.bool true :: digV (0 - E.den G ρ a)).toArray := by simp only [SV.den, SV.denL, digL_den, E.mkOp_den, iop_sub, B.den, E.den]
        rw [e2]
        exact k
      | false =>
        cases h
        simp only [B.den, cop_lt, decide_eq_false_iff_not, E.den] at ht
        refine entry_calls hv rfl rfl ?_
        rw [if_neg ht, decide_eq_false ht] at k
        exact k
    · cases h
  · cases h
def read_entry : Entry := fun X args =>
  match args with
  | [.agg [.int .i64 p, .int .u64 q]] => match wide? p q with
    | some a => if bigE X a then (Res.test X (.cmp .lt a (.lit 0))).bind fun t => if t then .ok (.agg (.bool (.lit true) :: digL (E.mkOp .sub (.lit 0) a))) else .ok (.agg (.bool (.lit false) :: digL a)) else .fail 226
    | none => .fail 227
  | _ => .fail 201
set_option maxRecDepth 100000 in
theorem read_ok {X : Ctx} {ρ : Nat → Int} (hX : X.Ok ρ) (hG : X.G = G) : EntryOk Tryd.prog X ρ GB 60 read_entry := by
  obtain ⟨XG, XI, XV, XF⟩ := X
  simp only at hG
  subst hG
  intro args s h α w vals hv hw
  unfold read_entry at h
  split at h
  · rename_i p q
    split at h
    · rename_i a ha
      obtain ⟨d1, d2⟩ := wide?_den (ρ := ρ) ha
      split at h
      · rename_i hg
        have g : Big (a.den G ρ) := bigE_in hX hg
        have k0 := read_any (a.den G ρ) (by unfold Big at g; omega) w hw
        have e : SV.denL G ρ [.agg [.int .i64 p, .int .u64 q]] = [.agg #[.int .i64 (hi (a.den G ρ)), .int .u64 (lo (a.den G ρ))]] := by simp only [SV.denL, SV.den, d1, d2]
        rw [← show (SV.denL G ρ [.agg [.int .i64 p, .int .u64 q]]).toArray = #[.agg #[.int .i64 (hi (a.den G ρ)), .int .u64 (lo (a.den G ρ))]] from by rw [e]] at k0
        replace h := Res.bind_ok h; obtain ⟨t, ht, h⟩ := h
        have ht := Res.test_ok hX ht
        have k := k0
        cases t with
        | true =>
          cases h
          simp only [B.den, cop_lt, decide_eq_true_eq, E.den] at ht
          refine entry_calls hv rfl rfl ?_
          rw [if_pos ht, decide_eq_true ht] at k
          have e2 : SV.den G ρ (.agg (.bool (.lit true) :: digL (E.mkOp .sub (.lit 0) a))) = .agg (.bool true :: digV (0 - E.den G ρ a)).toArray := by simp only [SV.den, SV.denL, digL_den, E.mkOp_den, iop_sub, B.den, E.den]
          rw [e2]
          exact k
        | false =>
          cases h
          simp only [B.den, cop_lt, decide_eq_false_iff_not, E.den] at ht
          refine entry_calls hv rfl rfl ?_
          rw [if_neg ht, decide_eq_false ht] at k
          exact k
      · cases h
    · cases h
  · cases h
def tell_entry : Entry := fun X args =>
  match args with
  | [.agg (.bool b :: l)] => (recog X l).bind fun N => (Res.test X (inB N 0 6277101735386680763835789423207666416102355444464034512895)).bind fun p => if p then (Res.test X b).bind fun s => (Res.test X (inB (if s then E.mkOp .sub (.lit 0) N else N) (-170141183460469231731687303715884105728) 170141183460469231731687303715884105727)).bind fun t => if t then .ok (.tuple [W2 (if s then E.mkOp .sub (.lit 0) N else N), .int .i64 (.lit 0)]) else .ok (.tuple [.agg [.int .i64 (.lit 0), .int .u64 (.lit 0)], .int .i64 (.lit 11)]) else .fail 228
  | _ => .fail 201
set_option maxRecDepth 100000 in
theorem tell_ok {X : Ctx} {ρ : Nat → Int} (hX : X.Ok ρ) (hG : X.G = G) : EntryOk Tryd.prog X ρ GB 53 tell_entry := by
  obtain ⟨XG, XI, XV, XF⟩ := X
  simp only at hG
  subst hG
  intro args s h α w vals hv hw
  unfold tell_entry at h
  split at h
  · rename_i b l
    replace h := Res.bind_ok h; obtain ⟨N, hN, h⟩ := h
    obtain ⟨u1, d1⟩ := recog_ok hX hN
    replace h := Res.bind_ok h; obtain ⟨p, hp, h⟩ := h
    have hp := Res.test_ok hX hp
    cases p with
    | false => cases h
    | true =>
    have gN := inB_den hp
    simp only [if_true] at h
    replace h := Res.bind_ok h; obtain ⟨s1, hs, h⟩ := h
    have hs := Res.test_ok hX hs
    replace h := Res.bind_ok h; obtain ⟨t, ht, h⟩ := h
    have ht := Res.test_ok hX ht
    have ub : SV.ubdL 0 [.agg (.bool b :: l)] = true := by simp only [SV.ubdL, SV.ubd, u1, Bool.and_self]
    have e : SV.denL G ρ [.agg (.bool b :: l)] = [.agg (.bool s1 :: digV (N.den G ρ)).toArray] := by simp only [SV.denL, SV.den, d1]; rw [show b.den G ρ = s1 from hs]
    have k := tell_any (if s1 = true then 1 else 0) (N.den G ρ) (by split <;> decide) gN w hw
    have eb : (!decide ((if s1 = true then (1 : Int) else 0) = 0)) = s1 := by cases s1 <;> rfl
    rw [eb] at k
    have ew : (if (if s1 = true then (1 : Int) else 0) = 0 then N.den G ρ else 0 - N.den G ρ) = (if s1 then E.mkOp .sub (.lit 0) N else N).den G ρ := by
      cases s1
      · simp
      · simp only [if_true]; rw [if_neg (by decide), E.mkOp_den]; rfl
    rw [ew] at k
    unfold tellV at k
    generalize (if s1 then E.mkOp .sub (.lit 0) N else N) = Wx at *
    cases t with
    | true =>
      have g := inB_den ht
      rw [if_pos g] at k
      cases h
      refine entry_calls hv ub rfl ?_
      rw [e]
      exact k
    | false =>
      have g : ¬ (-170141183460469231731687303715884105728 ≤ Wx.den G ρ ∧ Wx.den G ρ ≤ 170141183460469231731687303715884105727) := by
        intro z
        simp only [inB, B.den, cop_le, E.den] at ht
        rw [decide_eq_true z.1, decide_eq_true z.2] at ht
        cases ht
      rw [if_neg g] at k
      cases h
      refine entry_calls hv ub rfl ?_
      rw [e]
      exact k
  · cases h
def nearE (s t : Bool) (N : E) : E := if s != t then E.mkOp .sub (.lit 0) N else N
def nearest_entry : Entry := fun X args =>
  match args with
  | [.agg (.bool b :: l), .agg (.bool c :: m)] => (recog X l).bind fun N => (recog X m).bind fun M => (Res.test X (inB N 0 1532495540865888858358347027150309183618739122183602176)).bind fun p => (Res.test X (inB M 1 1532495540865888858358347027150309183618739122183602176)).bind fun q => if p && q then (Res.test X b).bind fun s => (Res.test X c).bind fun t => .ok (.agg (.bool (.cmp .le (.op .add (.op .mul (.lit 2) (nearE s t N)) M) (.lit 0)) :: digL (.op .max (.app 2 (.cons (nearE s t N) (.cons M .nil))) (.op .sub (.lit 0) (.app 2 (.cons (nearE s t N) (.cons M .nil))))))) else .fail 229
  | _ => .fail 201
set_option maxRecDepth 100000 in
theorem nearest_ok {X : Ctx} {ρ : Nat → Int} (hX : X.Ok ρ) (hG : X.G = G) : EntryOk Tryd.prog X ρ GB 51 nearest_entry := by
  obtain ⟨XG, XI, XV, XF⟩ := X
  simp only at hG
  subst hG
  intro args s h α w vals hv hw
  unfold nearest_entry at h
  split at h
  · rename_i b a c d
    replace h := Res.bind_ok h; obtain ⟨N, hN, h⟩ := h
    replace h := Res.bind_ok h; obtain ⟨M, hM, h⟩ := h
    replace h := Res.bind_ok h; obtain ⟨p, hp, h⟩ := h
    replace h := Res.bind_ok h; obtain ⟨q, hq, h⟩ := h
    have hp := Res.test_ok hX hp
    have hq := Res.test_ok hX hq
    split at h
    · rename_i hg
      simp only [Bool.and_eq_true] at hg
      obtain ⟨rfl, rfl⟩ := hg
      have gN := inB_den hp
      have gM := inB_den hq
      obtain ⟨u1, d1⟩ := recog_ok hX hN
      obtain ⟨u2, d2⟩ := recog_ok hX hM
      replace h := Res.bind_ok h; obtain ⟨s1, hs1, h⟩ := h
      replace h := Res.bind_ok h; obtain ⟨s2, hs2, h⟩ := h
      have hs1 := Res.test_ok hX hs1
      have hs2 := Res.test_ok hX hs2
      cases h
      have k := nearest_any (if s1 = true then 1 else 0) (N.den G ρ) (if s2 = true then 1 else 0) (M.den G ρ) (by split <;> decide) gN (by split <;> decide) gM w hw
      have eb : ∀ b : Bool, (!decide ((if b = true then (1 : Int) else 0) = 0)) = b := by intro b; cases b <;> rfl
      rw [eb, eb] at k
      have en : nearA (if s1 = true then 1 else 0) (N.den G ρ) (if s2 = true then 1 else 0) = (nearE s1 s2 N).den G ρ := by
        cases s1 <;> cases s2 <;> simp [nearA, nearE, E.mkOp_den, IOp.den, E.den]
      rw [en] at k
      refine entry_calls hv (by simp only [SV.ubdL, SV.ubd, u1, u2, Bool.and_self]) rfl ?_
      have e : SV.denL G ρ [.agg (.bool b :: a), .agg (.bool c :: d)] = [.agg (.bool s1 :: digV (N.den G ρ)).toArray, .agg (.bool s2 :: digV (M.den G ρ)).toArray] := by simp only [SV.denL, SV.den, d1, d2]; rw [show b.den G ρ = s1 from hs1, show c.den G ρ = s2 from hs2]
      rw [e]
      rw [← iop_max] at k
      exact k
    · cases h
  · cases h
def ct_small : Contracts := ctCons 50 small_entry ct_divided
theorem ct_small_ok {X : Ctx} {ρ : Nat → Int} (hX : X.Ok ρ) (hG : X.G = G) : CtOk Tryd.prog X ρ GB ct_small := ctCons_ok (small_ok hX hG) (ct_divided_ok hX hG)
def ct_read : Contracts := ctCons 60 read_entry ct_small
theorem ct_read_ok {X : Ctx} {ρ : Nat → Int} (hX : X.Ok ρ) (hG : X.G = G) : CtOk Tryd.prog X ρ GB ct_read := ctCons_ok (read_ok hX hG) (ct_small_ok hX hG)
def ct_tell : Contracts := ctCons 53 tell_entry ct_read
theorem ct_tell_ok {X : Ctx} {ρ : Nat → Int} (hX : X.Ok ρ) (hG : X.G = G) : CtOk Tryd.prog X ρ GB ct_tell := ctCons_ok (tell_ok hX hG) (ct_read_ok hX hG)
def ct_nearest : Contracts := ctCons 51 nearest_entry ct_tell
theorem ct_nearest_ok {X : Ctx} {ρ : Nat → Int} (hX : X.Ok ρ) (hG : X.G = G) : CtOk Tryd.prog X ρ GB ct_nearest := ctCons_ok (nearest_ok hX hG) (ct_tell_ok hX hG)
end Go.Proofs.YtnffpaenalccaaaDoor
