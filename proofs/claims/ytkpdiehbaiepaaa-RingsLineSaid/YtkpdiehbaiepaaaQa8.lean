/- What is proved: the run of a function over its ways,and what is known on each. No condition. -/
import Derived.Test.YtkpdiehbaiepaaaQa7
import Derived.Test.YtkpdiehbaiepaaaQg3
import Derived.Test.YtkpdiehbaiepaaaQNn
set_option linter.unusedSimpArgs false
set_option linter.unusedVariables false
set_option maxRecDepth 100000
namespace Go.Proofs.Ytkpdiehbaiepaaa
open Go Go.RowKit Sx Wi
def aJA (P:Program) (fs:List B):Res SV:=bK G GI [((-170141183460469231731687303715884105728),170141183460469231731687303715884105727)] fs (fun X=>gU P X GB iL 3000 123 [.agg [.int .i64 (.app 0 (.cons (.var 0) .nil)),.int .u64 (.app 1 (.cons (.var 0) .nil))]])
def aLN:List B:=[]
def aL2:B:=(.cmp .lt (.app 0 (.cons (.var 0) .nil)) (.lit 0))
def aYG:List B:=aH aL2++aLN
def aXq:List B:=aH (B.neg aL2)++aLN
theorem aZu:aJA Try.prog aYG = .ok (.agg ([(.bool (.lit true))]++aK (.op .sub (.lit zq8) (.op .add (.op .add (.op .add (.op .add (.op .add (.op .add (.op .add (.op .add (.op .add (.op .add (.op .add (.op .rem (.op .fdiv (.app 1 (.cons (.var 0) .nil)) (.lit 1)) (.lit 65536)) (.op .mul (.lit 65536) (.op .rem (.op .fdiv (.app 1 (.cons (.var 0) .nil)) (.lit 65536)) (.lit 65536)))) (.op .mul (.lit 4294967296) (.op .rem (.op .fdiv (.app 1 (.cons (.var 0) .nil)) (.lit 4294967296)) (.lit 65536)))) (.op .mul (.lit 281474976710656) (.op .fdiv (.app 1 (.cons (.var 0) .nil)) (.lit 281474976710656)))) (.op .mul (.lit zq4) (.op .rem (.op .fdiv (.wrap .u64 (.app 0 (.cons (.var 0) .nil))) (.lit 1)) (.lit 65536)))) (.op .mul (.lit zq5) (.op .rem (.op .fdiv (.wrap .u64 (.app 0 (.cons (.var 0) .nil))) (.lit 65536)) (.lit 65536)))) (.op .mul (.lit zq6) (.op .rem (.op .fdiv (.wrap .u64 (.app 0 (.cons (.var 0) .nil))) (.lit 4294967296)) (.lit 65536)))) (.op .mul (.lit zq7) (.op .fdiv (.wrap .u64 (.app 0 (.cons (.var 0) .nil))) (.lit 281474976710656)))) (.op .mul (.lit zq8) (.lit 0))) (.op .mul (.lit zq9) (.lit 0))) (.op .mul (.lit zq10) (.lit 0))) (.op .mul (.lit zq11) (.lit 0)))))):=by kernel_rfl
theorem aWA:aJA Try.prog aXq = .ok (.agg [(.bool (.lit false)),(.int .i64 (.op .rem (.op .fdiv (.app 1 (.cons (.var 0) .nil)) (.lit 1)) (.lit 65536))),(.int .i64 (.op .rem (.op .fdiv (.app 1 (.cons (.var 0) .nil)) (.lit 65536)) (.lit 65536))),(.int .i64 (.op .rem (.op .fdiv (.app 1 (.cons (.var 0) .nil)) (.lit 4294967296)) (.lit 65536))),(.int .i64 (.op .fdiv (.app 1 (.cons (.var 0) .nil)) (.lit 281474976710656))),(.int .i64 (.op .rem (.op .fdiv (.app 0 (.cons (.var 0) .nil)) (.lit 1)) (.lit 65536))),(.int .i64 (.op .rem (.op .fdiv (.app 0 (.cons (.var 0) .nil)) (.lit 65536)) (.lit 65536))),(.int .i64 (.op .rem (.op .fdiv (.app 0 (.cons (.var 0) .nil)) (.lit 4294967296)) (.lit 65536))),(.int .i64 (.op .fdiv (.app 0 (.cons (.var 0) .nil)) (.lit 281474976710656))),(.int .i64 (.lit 0)),(.int .i64 (.lit 0)),(.int .i64 (.lit 0)),(.int .i64 (.lit 0))]):=by kernel_rfl
set_option maxRecDepth 100000
open Go Go.RowKit Sx Wi
def oQ (P:Program) (fs:List B):Res SV:=bK G GI [(0,1),(0,6277101735386680763835789423207666416102355444464034512895)] fs (fun X=>gU P X GB iL 3000 121 [.agg (.bool (.cmp .ne (.var 0) (.lit 0))::aK (.var 1))])
def aKr:List B:=[]
def aLG:B:=(.cmp .lt (.var 1) (.lit 170141183460469231731687303715884105728))
def aMc:List B:=aH aLG++aKr
def aLw:B:=(.cmp .ne (.var 0) (.lit 0))
def aLk:List B:=aH aLw++aMc
def aKY:B:=(.cmp .ne (.var 1) (.lit 0))
def aZc:List B:=aH aKY++aLk
def aYz:List B:=aH (B.neg aKY)++aLk
def aXN:List B:=aH (B.neg aLw)++aMc
def aKg:List B:=aH (B.neg aLG)++aKr
def aMa:B:=(.cmp .lt (.lit 170141183460469231731687303715884105728) (.var 1))
def aWR:List B:=aH aMa++aKg
def aLf:List B:=aH (B.neg aMa)++aKg
def aKz:B:=(.cmp .eq (.var 0) (.lit 0))
def aX8:List B:=aH aKz++aLf
def aTh:List B:=aH (B.neg aKz)++aLf
theorem aYH:oQ Try.prog aZc = .ok (.tuple [(.agg [(.int .i64 (.wrap .i64 (.op .add (.op .mul (.op .add (.op .mul (.op .add (.op .mul (.app 30 (.cons (.op .sub (.lit zq8) (.var 1)) (.cons (.lit zq7) .nil))) (.lit 65536)) (.app 30 (.cons (.op .sub (.lit zq8) (.var 1)) (.cons (.lit zq6) .nil)))) (.lit 65536)) (.app 30 (.cons (.op .sub (.lit zq8) (.var 1)) (.cons (.lit zq5) .nil)))) (.lit 65536)) (.app 30 (.cons (.op .sub (.lit zq8) (.var 1)) (.cons (.lit zq4) .nil)))))),(.int .u64 (.op .add (.op .mul (.op .add (.op .mul (.op .add (.op .mul (.app 30 (.cons (.op .sub (.lit zq8) (.var 1)) (.cons (.lit 281474976710656) .nil))) (.lit 65536)) (.app 30 (.cons (.op .sub (.lit zq8) (.var 1)) (.cons (.lit 4294967296) .nil)))) (.lit 65536)) (.app 30 (.cons (.op .sub (.lit zq8) (.var 1)) (.cons (.lit 65536) .nil)))) (.lit 65536)) (.app 30 (.cons (.op .sub (.lit zq8) (.var 1)) (.cons (.lit 1) .nil)))))]),(.int .i64 (.lit 0))]):=by kernel_rfl
theorem aXE:oQ Try.prog aYz = .ok (.tuple [(.agg [(.int .i64 (.wrap .i64 (.op .add (.op .mul (.op .add (.op .mul (.op .add (.op .mul (.app 30 (.cons (.var 1) (.cons (.lit zq7) .nil))) (.lit 65536)) (.app 30 (.cons (.var 1) (.cons (.lit zq6) .nil)))) (.lit 65536)) (.app 30 (.cons (.var 1) (.cons (.lit zq5) .nil)))) (.lit 65536)) (.app 30 (.cons (.var 1) (.cons (.lit zq4) .nil)))))),(.int .u64 (.op .add (.op .mul (.op .add (.op .mul (.op .add (.op .mul (.app 30 (.cons (.var 1) (.cons (.lit 281474976710656) .nil))) (.lit 65536)) (.app 30 (.cons (.var 1) (.cons (.lit 4294967296) .nil)))) (.lit 65536)) (.app 30 (.cons (.var 1) (.cons (.lit 65536) .nil)))) (.lit 65536)) (.app 30 (.cons (.var 1) (.cons (.lit 1) .nil)))))]),(.int .i64 (.lit 0))]):=by kernel_rfl
theorem aY5:oQ Try.prog aXN = .ok (.tuple [(.agg [(.int .i64 (.wrap .i64 (.op .add (.op .mul (.op .add (.op .mul (.op .add (.op .mul (.app 30 (.cons (.var 1) (.cons (.lit zq7) .nil))) (.lit 65536)) (.app 30 (.cons (.var 1) (.cons (.lit zq6) .nil)))) (.lit 65536)) (.app 30 (.cons (.var 1) (.cons (.lit zq5) .nil)))) (.lit 65536)) (.app 30 (.cons (.var 1) (.cons (.lit zq4) .nil)))))),(.int .u64 (.op .add (.op .mul (.op .add (.op .mul (.op .add (.op .mul (.app 30 (.cons (.var 1) (.cons (.lit 281474976710656) .nil))) (.lit 65536)) (.app 30 (.cons (.var 1) (.cons (.lit 4294967296) .nil)))) (.lit 65536)) (.app 30 (.cons (.var 1) (.cons (.lit 65536) .nil)))) (.lit 65536)) (.app 30 (.cons (.var 1) (.cons (.lit 1) .nil)))))]),(.int .i64 (.lit 0))]):=by kernel_rfl
theorem aX7:oQ Try.prog aWR = .ok (.tuple [(.agg [(.int .i64 (.lit 0)),(.int .u64 (.lit 0))]),(.int .i64 (.lit 11))]):=by kernel_rfl
theorem aYX:oQ Try.prog aX8 = .ok (.tuple [(.agg [(.int .i64 (.lit 0)),(.int .u64 (.lit 0))]),(.int .i64 (.lit 11))]):=by kernel_rfl
theorem aVH:oQ Try.prog aTh = .ok (.tuple [(.agg [(.int .i64 (.wrap .i64 (.op .add (.op .mul (.op .add (.op .mul (.op .add (.op .mul (.app 30 (.cons (.op .sub (.lit zq8) (.var 1)) (.cons (.lit zq7) .nil))) (.lit 65536)) (.app 30 (.cons (.op .sub (.lit zq8) (.var 1)) (.cons (.lit zq6) .nil)))) (.lit 65536)) (.app 30 (.cons (.op .sub (.lit zq8) (.var 1)) (.cons (.lit zq5) .nil)))) (.lit 65536)) (.app 30 (.cons (.op .sub (.lit zq8) (.var 1)) (.cons (.lit zq4) .nil)))))),(.int .u64 (.op .add (.op .mul (.op .add (.op .mul (.op .add (.op .mul (.app 30 (.cons (.op .sub (.lit zq8) (.var 1)) (.cons (.lit 281474976710656) .nil))) (.lit 65536)) (.app 30 (.cons (.op .sub (.lit zq8) (.var 1)) (.cons (.lit 4294967296) .nil)))) (.lit 65536)) (.app 30 (.cons (.op .sub (.lit zq8) (.var 1)) (.cons (.lit 65536) .nil)))) (.lit 65536)) (.app 30 (.cons (.op .sub (.lit zq8) (.var 1)) (.cons (.lit 1) .nil)))))]),(.int .i64 (.lit 0))]):=by kernel_rfl
open Go Go.RowKit Sx Nu Wi
set_option maxHeartbeats 4000000 in
set_option maxRecDepth 100000 in
theorem aMY (x0:Int) (b0:zzi x0) (w:World) (hw:pR GB w):dM Try.prog 138∧Calls Try.prog 138 #[.int .i64 x0] w (fun e w'=>e = .returned (.agg (.bool (decide (x0<0))::eA (if x0<0 then 0-x0 else x0)).toArray)∧Below w.heap.size w w'):=by
 refine dK (dC (ρ:=bT [x0]) (run:=aCg Try.prog) (fun _=>rfl) fits (bL ⟨b0,trivial⟩) dY (fun X hX hG=>gD hX hG) rfl rfl bV ?_ w hw)
 refine aG (.cmp .lt (.var 0) (.lit 0)) (fun h0=>?_) (fun h0=>?_)
 ·skip
  refine aE aVg ?_
  refine⟨rfl,?_⟩;have hs:x0<0:=(by simp only[nn,G,wG,nq]at *;(try simp only[hi]at *);omega);have e:0-x0=(340282366920938463463374607431768211456-((((((((((((Int.tmod (Int.fdiv (IntKind.u64.wrap x0) 1) 65536)+(65536*(Int.tmod (Int.fdiv (IntKind.u64.wrap x0) 65536) 65536)))+(4294967296*(Int.tmod (Int.fdiv (IntKind.u64.wrap x0) 4294967296) 65536)))+(281474976710656*(Int.fdiv (IntKind.u64.wrap x0) 281474976710656)))+(18446744073709551616*65535))+(1208925819614629174706176*65535))+(79228162514264337593543950336*65535))+(5192296858534827628530496329220096*65535))+(340282366920938463463374607431768211456*0))+(22300745198530623141535718272648361505980416*0))+(1461501637330902918203684832716283019655932542976*0))+(95780971304118053647396689196894323976171195136475136*0))):=(by (try simp only[IntKind.wrap_u64,IntKind.wrap_i64]at *);(try simp only[hi,lo]at *);(try simp (disch:=omega) only[Int.fdiv_eq_ediv_of_nonneg,Int.tmod_eq_emod_of_nonneg]at *);first|done|omega);rw[if_pos hs,decide_eq_true hs,e];rfl
 refine aE aTN ?_
 refine⟨rfl,?_⟩;have hs:¬x0<0:=(by simp only[nn,G,wG,nq]at *;(try simp only[hi]at *);omega);have e0:(Int.tmod (Int.fdiv x0 1) 65536)=dg x0 1:=(by unfold dg;(try simp only[IntKind.wrap_u64,IntKind.wrap_i64]at *);(try simp only[hi,lo]at *);(try simp (disch:=omega) only[Int.fdiv_eq_ediv_of_nonneg,Int.tmod_eq_emod_of_nonneg]at *);first|done|omega);have e1:(Int.tmod (Int.fdiv x0 65536) 65536)=dg x0 65536:=(by unfold dg;(try simp only[IntKind.wrap_u64,IntKind.wrap_i64]at *);(try simp only[hi,lo]at *);(try simp (disch:=omega) only[Int.fdiv_eq_ediv_of_nonneg,Int.tmod_eq_emod_of_nonneg]at *);first|done|omega);have e2:(Int.tmod (Int.fdiv x0 4294967296) 65536)=dg x0 4294967296:=(by unfold dg;(try simp only[IntKind.wrap_u64,IntKind.wrap_i64]at *);(try simp only[hi,lo]at *);(try simp (disch:=omega) only[Int.fdiv_eq_ediv_of_nonneg,Int.tmod_eq_emod_of_nonneg]at *);first|done|omega);have e3:(Int.fdiv x0 281474976710656)=dg x0 281474976710656:=(by unfold dg;(try simp only[IntKind.wrap_u64,IntKind.wrap_i64]at *);(try simp only[hi,lo]at *);(try simp (disch:=omega) only[Int.fdiv_eq_ediv_of_nonneg,Int.tmod_eq_emod_of_nonneg]at *);first|done|omega);have e4:0=dg x0 18446744073709551616:=(by unfold dg;(try simp only[IntKind.wrap_u64,IntKind.wrap_i64]at *);(try simp only[hi,lo]at *);(try simp (disch:=omega) only[Int.fdiv_eq_ediv_of_nonneg,Int.tmod_eq_emod_of_nonneg]at *);first|done|omega);have e5:0=dg x0 1208925819614629174706176:=(by unfold dg;(try simp only[IntKind.wrap_u64,IntKind.wrap_i64]at *);(try simp only[hi,lo]at *);(try simp (disch:=omega) only[Int.fdiv_eq_ediv_of_nonneg,Int.tmod_eq_emod_of_nonneg]at *);first|done|omega);have e6:0=dg x0 79228162514264337593543950336:=(by unfold dg;(try simp only[IntKind.wrap_u64,IntKind.wrap_i64]at *);(try simp only[hi,lo]at *);(try simp (disch:=omega) only[Int.fdiv_eq_ediv_of_nonneg,Int.tmod_eq_emod_of_nonneg]at *);first|done|omega);have e7:0=dg x0 5192296858534827628530496329220096:=(by unfold dg;(try simp only[IntKind.wrap_u64,IntKind.wrap_i64]at *);(try simp only[hi,lo]at *);(try simp (disch:=omega) only[Int.fdiv_eq_ediv_of_nonneg,Int.tmod_eq_emod_of_nonneg]at *);first|done|omega);have e8:0=dg x0 340282366920938463463374607431768211456:=(by unfold dg;(try simp only[IntKind.wrap_u64,IntKind.wrap_i64]at *);(try simp only[hi,lo]at *);(try simp (disch:=omega) only[Int.fdiv_eq_ediv_of_nonneg,Int.tmod_eq_emod_of_nonneg]at *);first|done|omega);have e9:0=dg x0 22300745198530623141535718272648361505980416:=(by unfold dg;(try simp only[IntKind.wrap_u64,IntKind.wrap_i64]at *);(try simp only[hi,lo]at *);(try simp (disch:=omega) only[Int.fdiv_eq_ediv_of_nonneg,Int.tmod_eq_emod_of_nonneg]at *);first|done|omega);have e10:0=dg x0 1461501637330902918203684832716283019655932542976:=(by unfold dg;(try simp only[IntKind.wrap_u64,IntKind.wrap_i64]at *);(try simp only[hi,lo]at *);(try simp (disch:=omega) only[Int.fdiv_eq_ediv_of_nonneg,Int.tmod_eq_emod_of_nonneg]at *);first|done|omega);have e11:0=dg x0 95780971304118053647396689196894323976171195136475136:=(by unfold dg;(try simp only[IntKind.wrap_u64,IntKind.wrap_i64]at *);(try simp only[hi,lo]at *);(try simp (disch:=omega) only[Int.fdiv_eq_ediv_of_nonneg,Int.tmod_eq_emod_of_nonneg]at *);first|done|omega);rw[if_neg hs,decide_eq_false hs];show Value.agg #[Value.bool false,Value.int .i64 (Int.tmod (Int.fdiv x0 1) 65536),Value.int .i64 (Int.tmod (Int.fdiv x0 65536) 65536),Value.int .i64 (Int.tmod (Int.fdiv x0 4294967296) 65536),Value.int .i64 (Int.fdiv x0 281474976710656),Value.int .i64 0,Value.int .i64 0,Value.int .i64 0,Value.int .i64 0,Value.int .i64 0,Value.int .i64 0,Value.int .i64 0,Value.int .i64 0]=Value.agg #[Value.bool false,Value.int .i64 (dg x0 1),Value.int .i64 (dg x0 65536),Value.int .i64 (dg x0 4294967296),Value.int .i64 (dg x0 281474976710656),Value.int .i64 (dg x0 18446744073709551616),Value.int .i64 (dg x0 1208925819614629174706176),Value.int .i64 (dg x0 79228162514264337593543950336),Value.int .i64 (dg x0 5192296858534827628530496329220096),Value.int .i64 (dg x0 340282366920938463463374607431768211456),Value.int .i64 (dg x0 22300745198530623141535718272648361505980416),Value.int .i64 (dg x0 1461501637330902918203684832716283019655932542976),Value.int .i64 (dg x0 95780971304118053647396689196894323976171195136475136)];rw[←e0,←e1,←e2,←e3,←e4,←e5,←e6,←e7,←e8,←e9,←e10,←e11]
set_option maxHeartbeats 4000000 in
set_option maxRecDepth 100000 in
theorem aPk (x0:Int) (b0:(-170141183460469231731687303715884105728)≤x0∧x0≤170141183460469231731687303715884105727) (w:World) (hw:pR GB w):dM Try.prog 123∧Calls Try.prog 123 #[.agg #[.int .i64 (hi x0),.int .u64 (lo x0)]] w (fun e w'=>e = .returned (.agg (.bool (decide (x0<0))::eA (if x0<0 then 0-x0 else x0)).toArray)∧Below w.heap.size w w'):=by
 refine dK (dC (ρ:=bT [x0]) (run:=aJA Try.prog) (fun _=>rfl) fits (bL ⟨b0,trivial⟩) dY (fun X hX hG=>gD hX hG) rfl rfl bV ?_ w hw)
 refine aG (.cmp .lt (.app 0 (.cons (.var 0) .nil)) (.lit 0)) (fun h0=>?_) (fun h0=>?_)
 ·skip
  refine aE aZu ?_
  refine⟨rfl,?_⟩;have hs:x0<0:=(by simp only[nn,G,wG,nq]at *;(try simp only[hi]at *);omega);have e:0-x0=(340282366920938463463374607431768211456-((((((((((((Int.tmod (Int.fdiv (lo x0) 1) 65536)+(65536*(Int.tmod (Int.fdiv (lo x0) 65536) 65536)))+(4294967296*(Int.tmod (Int.fdiv (lo x0) 4294967296) 65536)))+(281474976710656*(Int.fdiv (lo x0) 281474976710656)))+(18446744073709551616*(Int.tmod (Int.fdiv (IntKind.u64.wrap (hi x0)) 1) 65536)))+(1208925819614629174706176*(Int.tmod (Int.fdiv (IntKind.u64.wrap (hi x0)) 65536) 65536)))+(79228162514264337593543950336*(Int.tmod (Int.fdiv (IntKind.u64.wrap (hi x0)) 4294967296) 65536)))+(5192296858534827628530496329220096*(Int.fdiv (IntKind.u64.wrap (hi x0)) 281474976710656)))+(340282366920938463463374607431768211456*0))+(22300745198530623141535718272648361505980416*0))+(1461501637330902918203684832716283019655932542976*0))+(95780971304118053647396689196894323976171195136475136*0))):=(by (try simp only[IntKind.wrap_u64,IntKind.wrap_i64]at *);(try simp only[hi,lo]at *);(try simp (disch:=omega) only[Int.fdiv_eq_ediv_of_nonneg,Int.tmod_eq_emod_of_nonneg]at *);first|done|omega);rw[if_pos hs,decide_eq_true hs,e];rfl
 refine aE aWA ?_
 refine⟨rfl,?_⟩;have hs:¬x0<0:=(by simp only[nn,G,wG,nq]at *;(try simp only[hi]at *);omega);have e0:(Int.tmod (Int.fdiv (lo x0) 1) 65536)=dg x0 1:=(by unfold dg;(try simp only[IntKind.wrap_u64,IntKind.wrap_i64]at *);(try simp only[hi,lo]at *);(try simp (disch:=omega) only[Int.fdiv_eq_ediv_of_nonneg,Int.tmod_eq_emod_of_nonneg]at *);first|done|omega);have e1:(Int.tmod (Int.fdiv (lo x0) 65536) 65536)=dg x0 65536:=(by unfold dg;(try simp only[IntKind.wrap_u64,IntKind.wrap_i64]at *);(try simp only[hi,lo]at *);(try simp (disch:=omega) only[Int.fdiv_eq_ediv_of_nonneg,Int.tmod_eq_emod_of_nonneg]at *);first|done|omega);have e2:(Int.tmod (Int.fdiv (lo x0) 4294967296) 65536)=dg x0 4294967296:=(by unfold dg;(try simp only[IntKind.wrap_u64,IntKind.wrap_i64]at *);(try simp only[hi,lo]at *);(try simp (disch:=omega) only[Int.fdiv_eq_ediv_of_nonneg,Int.tmod_eq_emod_of_nonneg]at *);first|done|omega);have e3:(Int.fdiv (lo x0) 281474976710656)=dg x0 281474976710656:=(by unfold dg;(try simp only[IntKind.wrap_u64,IntKind.wrap_i64]at *);(try simp only[hi,lo]at *);(try simp (disch:=omega) only[Int.fdiv_eq_ediv_of_nonneg,Int.tmod_eq_emod_of_nonneg]at *);first|done|omega);have e4:(Int.tmod (Int.fdiv (hi x0) 1) 65536)=dg x0 18446744073709551616:=(by unfold dg;(try simp only[IntKind.wrap_u64,IntKind.wrap_i64]at *);(try simp only[hi,lo]at *);(try simp (disch:=omega) only[Int.fdiv_eq_ediv_of_nonneg,Int.tmod_eq_emod_of_nonneg]at *);first|done|omega);have e5:(Int.tmod (Int.fdiv (hi x0) 65536) 65536)=dg x0 1208925819614629174706176:=(by unfold dg;(try simp only[IntKind.wrap_u64,IntKind.wrap_i64]at *);(try simp only[hi,lo]at *);(try simp (disch:=omega) only[Int.fdiv_eq_ediv_of_nonneg,Int.tmod_eq_emod_of_nonneg]at *);first|done|omega);have e6:(Int.tmod (Int.fdiv (hi x0) 4294967296) 65536)=dg x0 79228162514264337593543950336:=(by unfold dg;(try simp only[IntKind.wrap_u64,IntKind.wrap_i64]at *);(try simp only[hi,lo]at *);(try simp (disch:=omega) only[Int.fdiv_eq_ediv_of_nonneg,Int.tmod_eq_emod_of_nonneg]at *);first|done|omega);have e7:(Int.fdiv (hi x0) 281474976710656)=dg x0 5192296858534827628530496329220096:=(by unfold dg;(try simp only[IntKind.wrap_u64,IntKind.wrap_i64]at *);(try simp only[hi,lo]at *);(try simp (disch:=omega) only[Int.fdiv_eq_ediv_of_nonneg,Int.tmod_eq_emod_of_nonneg]at *);first|done|omega);have e8:0=dg x0 340282366920938463463374607431768211456:=(by unfold dg;(try simp only[IntKind.wrap_u64,IntKind.wrap_i64]at *);(try simp only[hi,lo]at *);(try simp (disch:=omega) only[Int.fdiv_eq_ediv_of_nonneg,Int.tmod_eq_emod_of_nonneg]at *);first|done|omega);have e9:0=dg x0 22300745198530623141535718272648361505980416:=(by unfold dg;(try simp only[IntKind.wrap_u64,IntKind.wrap_i64]at *);(try simp only[hi,lo]at *);(try simp (disch:=omega) only[Int.fdiv_eq_ediv_of_nonneg,Int.tmod_eq_emod_of_nonneg]at *);first|done|omega);have e10:0=dg x0 1461501637330902918203684832716283019655932542976:=(by unfold dg;(try simp only[IntKind.wrap_u64,IntKind.wrap_i64]at *);(try simp only[hi,lo]at *);(try simp (disch:=omega) only[Int.fdiv_eq_ediv_of_nonneg,Int.tmod_eq_emod_of_nonneg]at *);first|done|omega);have e11:0=dg x0 95780971304118053647396689196894323976171195136475136:=(by unfold dg;(try simp only[IntKind.wrap_u64,IntKind.wrap_i64]at *);(try simp only[hi,lo]at *);(try simp (disch:=omega) only[Int.fdiv_eq_ediv_of_nonneg,Int.tmod_eq_emod_of_nonneg]at *);first|done|omega);rw[if_neg hs,decide_eq_false hs];show Value.agg #[Value.bool false,Value.int .i64 (Int.tmod (Int.fdiv (lo x0) 1) 65536),Value.int .i64 (Int.tmod (Int.fdiv (lo x0) 65536) 65536),Value.int .i64 (Int.tmod (Int.fdiv (lo x0) 4294967296) 65536),Value.int .i64 (Int.fdiv (lo x0) 281474976710656),Value.int .i64 (Int.tmod (Int.fdiv (hi x0) 1) 65536),Value.int .i64 (Int.tmod (Int.fdiv (hi x0) 65536) 65536),Value.int .i64 (Int.tmod (Int.fdiv (hi x0) 4294967296) 65536),Value.int .i64 (Int.fdiv (hi x0) 281474976710656),Value.int .i64 0,Value.int .i64 0,Value.int .i64 0,Value.int .i64 0]=Value.agg #[Value.bool false,Value.int .i64 (dg x0 1),Value.int .i64 (dg x0 65536),Value.int .i64 (dg x0 4294967296),Value.int .i64 (dg x0 281474976710656),Value.int .i64 (dg x0 18446744073709551616),Value.int .i64 (dg x0 1208925819614629174706176),Value.int .i64 (dg x0 79228162514264337593543950336),Value.int .i64 (dg x0 5192296858534827628530496329220096),Value.int .i64 (dg x0 340282366920938463463374607431768211456),Value.int .i64 (dg x0 22300745198530623141535718272648361505980416),Value.int .i64 (dg x0 1461501637330902918203684832716283019655932542976),Value.int .i64 (dg x0 95780971304118053647396689196894323976171195136475136)];rw[←e0,←e1,←e2,←e3,←e4,←e5,←e6,←e7,←e8,←e9,←e10,←e11]
def hJ (W:Int):Value:=if -170141183460469231731687303715884105728≤W∧W≤170141183460469231731687303715884105727 then .tuple #[.agg #[.int .i64 (hi W),.int .u64 (lo W)],.int .i64 0] else .tuple #[.agg #[.int .i64 0,.int .u64 0],.int .i64 11]
set_option maxHeartbeats 4000000 in
set_option maxRecDepth 100000 in
theorem aS2 (x0 x1:Int) (b0:0≤x0∧x0≤1) (b1:0≤x1∧x1≤6277101735386680763835789423207666416102355444464034512895) (w:World) (hw:pR GB w):dM Try.prog 121∧Calls Try.prog 121 #[.agg (.bool (!decide (x0=0))::eA x1).toArray] w (fun e w'=>e = .returned (hJ (if x0=0 then x1 else 0-x1))∧Below w.heap.size w w'):=by
 refine dK (dC (ρ:=bT [x0,x1]) (run:=oQ Try.prog) (fun _=>rfl) fits (bL ⟨b0,b1,trivial⟩) dY (fun X hX hG=>gD hX hG) rfl rfl bV ?_ w hw)
 refine aG (.cmp .lt (.var 1) (.lit 170141183460469231731687303715884105728)) (fun h0=>?_) (fun h0=>?_)
 ·skip
  refine aG (.cmp .ne (.var 0) (.lit 0)) (fun h1=>?_) (fun h1=>?_)
  rotate_left
  ·skip
   refine aE aY5 ?_
   refine⟨rfl,?_⟩;have hw:(if x0=0 then x1 else 0-x1)=x1:=(by simp only[nn,G,wG,nq]at *;split<;>omega);have hb : -170141183460469231731687303715884105728≤x1∧x1≤170141183460469231731687303715884105727:=(by simp only[nn,G,wG,nq]at *;omega);unfold hJ;rw[hw,if_pos hb];have eh:(IntKind.i64.wrap (((((((dg x1 5192296858534827628530496329220096)*65536)+(dg x1 79228162514264337593543950336))*65536)+(dg x1 1208925819614629174706176))*65536)+(dg x1 18446744073709551616)))=hi x1:=(by unfold hi;have hx:0≤x1∧x1≤340282366920938463463374607431768211455:=(by simp only[nn,G,wG,nq]at *;omega);clear h0;have ha:=eR x1 (by omega) (by omega);have d0:=dg_bd x1 1;have d1:=dg_bd x1 65536;have d2:=dg_bd x1 4294967296;have d3:=dg_bd x1 281474976710656;have d4:=dg_bd x1 18446744073709551616;have d5:=dg_bd x1 1208925819614629174706176;have d6:=dg_bd x1 79228162514264337593543950336;have d7:=dg_bd x1 5192296858534827628530496329220096;have d8:=dg_bd x1 340282366920938463463374607431768211456;have d9:=dg_bd x1 22300745198530623141535718272648361505980416;have d10:=dg_bd x1 1461501637330902918203684832716283019655932542976;have d11:=dg_bd x1 95780971304118053647396689196894323976171195136475136;generalize dg x1 1=c0 at *;generalize dg x1 65536=c1 at *;generalize dg x1 4294967296=c2 at *;generalize dg x1 281474976710656=c3 at *;generalize dg x1 18446744073709551616=c4 at *;generalize dg x1 1208925819614629174706176=c5 at *;generalize dg x1 79228162514264337593543950336=c6 at *;generalize dg x1 5192296858534827628530496329220096=c7 at *;generalize dg x1 340282366920938463463374607431768211456=c8 at *;generalize dg x1 22300745198530623141535718272648361505980416=c9 at *;generalize dg x1 1461501637330902918203684832716283019655932542976=c10 at *;generalize dg x1 95780971304118053647396689196894323976171195136475136=c11 at *;(try simp only[IntKind.wrap_i64]);omega);have el:(((((((dg x1 281474976710656)*65536)+(dg x1 4294967296))*65536)+(dg x1 65536))*65536)+(dg x1 1))=lo x1:=(by unfold lo;have hx:0≤x1∧x1≤340282366920938463463374607431768211455:=(by simp only[nn,G,wG,nq]at *;omega);clear h0;have ha:=eR x1 (by omega) (by omega);have d0:=dg_bd x1 1;have d1:=dg_bd x1 65536;have d2:=dg_bd x1 4294967296;have d3:=dg_bd x1 281474976710656;have d4:=dg_bd x1 18446744073709551616;have d5:=dg_bd x1 1208925819614629174706176;have d6:=dg_bd x1 79228162514264337593543950336;have d7:=dg_bd x1 5192296858534827628530496329220096;have d8:=dg_bd x1 340282366920938463463374607431768211456;have d9:=dg_bd x1 22300745198530623141535718272648361505980416;have d10:=dg_bd x1 1461501637330902918203684832716283019655932542976;have d11:=dg_bd x1 95780971304118053647396689196894323976171195136475136;generalize dg x1 1=c0 at *;generalize dg x1 65536=c1 at *;generalize dg x1 4294967296=c2 at *;generalize dg x1 281474976710656=c3 at *;generalize dg x1 18446744073709551616=c4 at *;generalize dg x1 1208925819614629174706176=c5 at *;generalize dg x1 79228162514264337593543950336=c6 at *;generalize dg x1 5192296858534827628530496329220096=c7 at *;generalize dg x1 340282366920938463463374607431768211456=c8 at *;generalize dg x1 22300745198530623141535718272648361505980416=c9 at *;generalize dg x1 1461501637330902918203684832716283019655932542976=c10 at *;generalize dg x1 95780971304118053647396689196894323976171195136475136=c11 at *;(try simp only[IntKind.wrap_i64]);omega);show Value.tuple #[Value.agg #[Value.int .i64 (IntKind.i64.wrap (((((((dg x1 5192296858534827628530496329220096)*65536)+(dg x1 79228162514264337593543950336))*65536)+(dg x1 1208925819614629174706176))*65536)+(dg x1 18446744073709551616))),Value.int .u64 (((((((dg x1 281474976710656)*65536)+(dg x1 4294967296))*65536)+(dg x1 65536))*65536)+(dg x1 1))],Value.int .i64 0]=_;rw[eh,el]
  refine aG (.cmp .ne (.var 1) (.lit 0)) (fun h2=>?_) (fun h2=>?_)
  ·skip
   refine aE aYH ?_
   refine⟨rfl,?_⟩;have hw:(if x0=0 then x1 else 0-x1)=(0-x1):=(by simp only[nn,G,wG,nq]at *;split<;>omega);have hb : -170141183460469231731687303715884105728≤(0-x1)∧(0-x1)≤170141183460469231731687303715884105727:=(by simp only[nn,G,wG,nq]at *;omega);unfold hJ;rw[hw,if_pos hb];have eh:(IntKind.i64.wrap (((((((dg (340282366920938463463374607431768211456-x1) 5192296858534827628530496329220096)*65536)+(dg (340282366920938463463374607431768211456-x1) 79228162514264337593543950336))*65536)+(dg (340282366920938463463374607431768211456-x1) 1208925819614629174706176))*65536)+(dg (340282366920938463463374607431768211456-x1) 18446744073709551616)))=hi (0-x1):=(by unfold hi;have hx:0≤(340282366920938463463374607431768211456-x1)∧(340282366920938463463374607431768211456-x1)≤340282366920938463463374607431768211455:=(by simp only[nn,G,wG,nq]at *;omega);clear h0;have ha:=eR (340282366920938463463374607431768211456-x1) (by omega) (by omega);have d0:=dg_bd (340282366920938463463374607431768211456-x1) 1;have d1:=dg_bd (340282366920938463463374607431768211456-x1) 65536;have d2:=dg_bd (340282366920938463463374607431768211456-x1) 4294967296;have d3:=dg_bd (340282366920938463463374607431768211456-x1) 281474976710656;have d4:=dg_bd (340282366920938463463374607431768211456-x1) 18446744073709551616;have d5:=dg_bd (340282366920938463463374607431768211456-x1) 1208925819614629174706176;have d6:=dg_bd (340282366920938463463374607431768211456-x1) 79228162514264337593543950336;have d7:=dg_bd (340282366920938463463374607431768211456-x1) 5192296858534827628530496329220096;have d8:=dg_bd (340282366920938463463374607431768211456-x1) 340282366920938463463374607431768211456;have d9:=dg_bd (340282366920938463463374607431768211456-x1) 22300745198530623141535718272648361505980416;have d10:=dg_bd (340282366920938463463374607431768211456-x1) 1461501637330902918203684832716283019655932542976;have d11:=dg_bd (340282366920938463463374607431768211456-x1) 95780971304118053647396689196894323976171195136475136;generalize dg (340282366920938463463374607431768211456-x1) 1=c0 at *;generalize dg (340282366920938463463374607431768211456-x1) 65536=c1 at *;generalize dg (340282366920938463463374607431768211456-x1) 4294967296=c2 at *;generalize dg (340282366920938463463374607431768211456-x1) 281474976710656=c3 at *;generalize dg (340282366920938463463374607431768211456-x1) 18446744073709551616=c4 at *;generalize dg (340282366920938463463374607431768211456-x1) 1208925819614629174706176=c5 at *;generalize dg (340282366920938463463374607431768211456-x1) 79228162514264337593543950336=c6 at *;generalize dg (340282366920938463463374607431768211456-x1) 5192296858534827628530496329220096=c7 at *;generalize dg (340282366920938463463374607431768211456-x1) 340282366920938463463374607431768211456=c8 at *;generalize dg (340282366920938463463374607431768211456-x1) 22300745198530623141535718272648361505980416=c9 at *;generalize dg (340282366920938463463374607431768211456-x1) 1461501637330902918203684832716283019655932542976=c10 at *;generalize dg (340282366920938463463374607431768211456-x1) 95780971304118053647396689196894323976171195136475136=c11 at *;(try simp only[IntKind.wrap_i64]);omega);have el:(((((((dg (340282366920938463463374607431768211456-x1) 281474976710656)*65536)+(dg (340282366920938463463374607431768211456-x1) 4294967296))*65536)+(dg (340282366920938463463374607431768211456-x1) 65536))*65536)+(dg (340282366920938463463374607431768211456-x1) 1))=lo (0-x1):=(by unfold lo;have hx:0≤(340282366920938463463374607431768211456-x1)∧(340282366920938463463374607431768211456-x1)≤340282366920938463463374607431768211455:=(by simp only[nn,G,wG,nq]at *;omega);clear h0;have ha:=eR (340282366920938463463374607431768211456-x1) (by omega) (by omega);have d0:=dg_bd (340282366920938463463374607431768211456-x1) 1;have d1:=dg_bd (340282366920938463463374607431768211456-x1) 65536;have d2:=dg_bd (340282366920938463463374607431768211456-x1) 4294967296;have d3:=dg_bd (340282366920938463463374607431768211456-x1) 281474976710656;have d4:=dg_bd (340282366920938463463374607431768211456-x1) 18446744073709551616;have d5:=dg_bd (340282366920938463463374607431768211456-x1) 1208925819614629174706176;have d6:=dg_bd (340282366920938463463374607431768211456-x1) 79228162514264337593543950336;have d7:=dg_bd (340282366920938463463374607431768211456-x1) 5192296858534827628530496329220096;have d8:=dg_bd (340282366920938463463374607431768211456-x1) 340282366920938463463374607431768211456;have d9:=dg_bd (340282366920938463463374607431768211456-x1) 22300745198530623141535718272648361505980416;have d10:=dg_bd (340282366920938463463374607431768211456-x1) 1461501637330902918203684832716283019655932542976;have d11:=dg_bd (340282366920938463463374607431768211456-x1) 95780971304118053647396689196894323976171195136475136;generalize dg (340282366920938463463374607431768211456-x1) 1=c0 at *;generalize dg (340282366920938463463374607431768211456-x1) 65536=c1 at *;generalize dg (340282366920938463463374607431768211456-x1) 4294967296=c2 at *;generalize dg (340282366920938463463374607431768211456-x1) 281474976710656=c3 at *;generalize dg (340282366920938463463374607431768211456-x1) 18446744073709551616=c4 at *;generalize dg (340282366920938463463374607431768211456-x1) 1208925819614629174706176=c5 at *;generalize dg (340282366920938463463374607431768211456-x1) 79228162514264337593543950336=c6 at *;generalize dg (340282366920938463463374607431768211456-x1) 5192296858534827628530496329220096=c7 at *;generalize dg (340282366920938463463374607431768211456-x1) 340282366920938463463374607431768211456=c8 at *;generalize dg (340282366920938463463374607431768211456-x1) 22300745198530623141535718272648361505980416=c9 at *;generalize dg (340282366920938463463374607431768211456-x1) 1461501637330902918203684832716283019655932542976=c10 at *;generalize dg (340282366920938463463374607431768211456-x1) 95780971304118053647396689196894323976171195136475136=c11 at *;(try simp only[IntKind.wrap_i64]);omega);show Value.tuple #[Value.agg #[Value.int .i64 (IntKind.i64.wrap (((((((dg (340282366920938463463374607431768211456-x1) 5192296858534827628530496329220096)*65536)+(dg (340282366920938463463374607431768211456-x1) 79228162514264337593543950336))*65536)+(dg (340282366920938463463374607431768211456-x1) 1208925819614629174706176))*65536)+(dg (340282366920938463463374607431768211456-x1) 18446744073709551616))),Value.int .u64 (((((((dg (340282366920938463463374607431768211456-x1) 281474976710656)*65536)+(dg (340282366920938463463374607431768211456-x1) 4294967296))*65536)+(dg (340282366920938463463374607431768211456-x1) 65536))*65536)+(dg (340282366920938463463374607431768211456-x1) 1))],Value.int .i64 0]=_;rw[eh,el]
  refine aE aXE ?_
  refine⟨rfl,?_⟩;have hw:(if x0=0 then x1 else 0-x1)=x1:=(by simp only[nn,G,wG,nq]at *;split<;>omega);have hb : -170141183460469231731687303715884105728≤x1∧x1≤170141183460469231731687303715884105727:=(by simp only[nn,G,wG,nq]at *;omega);unfold hJ;rw[hw,if_pos hb];have eh:(IntKind.i64.wrap (((((((dg x1 5192296858534827628530496329220096)*65536)+(dg x1 79228162514264337593543950336))*65536)+(dg x1 1208925819614629174706176))*65536)+(dg x1 18446744073709551616)))=hi x1:=(by unfold hi;have hx:0≤x1∧x1≤340282366920938463463374607431768211455:=(by simp only[nn,G,wG,nq]at *;omega);clear h0;have ha:=eR x1 (by omega) (by omega);have d0:=dg_bd x1 1;have d1:=dg_bd x1 65536;have d2:=dg_bd x1 4294967296;have d3:=dg_bd x1 281474976710656;have d4:=dg_bd x1 18446744073709551616;have d5:=dg_bd x1 1208925819614629174706176;have d6:=dg_bd x1 79228162514264337593543950336;have d7:=dg_bd x1 5192296858534827628530496329220096;have d8:=dg_bd x1 340282366920938463463374607431768211456;have d9:=dg_bd x1 22300745198530623141535718272648361505980416;have d10:=dg_bd x1 1461501637330902918203684832716283019655932542976;have d11:=dg_bd x1 95780971304118053647396689196894323976171195136475136;generalize dg x1 1=c0 at *;generalize dg x1 65536=c1 at *;generalize dg x1 4294967296=c2 at *;generalize dg x1 281474976710656=c3 at *;generalize dg x1 18446744073709551616=c4 at *;generalize dg x1 1208925819614629174706176=c5 at *;generalize dg x1 79228162514264337593543950336=c6 at *;generalize dg x1 5192296858534827628530496329220096=c7 at *;generalize dg x1 340282366920938463463374607431768211456=c8 at *;generalize dg x1 22300745198530623141535718272648361505980416=c9 at *;generalize dg x1 1461501637330902918203684832716283019655932542976=c10 at *;generalize dg x1 95780971304118053647396689196894323976171195136475136=c11 at *;(try simp only[IntKind.wrap_i64]);omega);have el:(((((((dg x1 281474976710656)*65536)+(dg x1 4294967296))*65536)+(dg x1 65536))*65536)+(dg x1 1))=lo x1:=(by unfold lo;have hx:0≤x1∧x1≤340282366920938463463374607431768211455:=(by simp only[nn,G,wG,nq]at *;omega);clear h0;have ha:=eR x1 (by omega) (by omega);have d0:=dg_bd x1 1;have d1:=dg_bd x1 65536;have d2:=dg_bd x1 4294967296;have d3:=dg_bd x1 281474976710656;have d4:=dg_bd x1 18446744073709551616;have d5:=dg_bd x1 1208925819614629174706176;have d6:=dg_bd x1 79228162514264337593543950336;have d7:=dg_bd x1 5192296858534827628530496329220096;have d8:=dg_bd x1 340282366920938463463374607431768211456;have d9:=dg_bd x1 22300745198530623141535718272648361505980416;have d10:=dg_bd x1 1461501637330902918203684832716283019655932542976;have d11:=dg_bd x1 95780971304118053647396689196894323976171195136475136;generalize dg x1 1=c0 at *;generalize dg x1 65536=c1 at *;generalize dg x1 4294967296=c2 at *;generalize dg x1 281474976710656=c3 at *;generalize dg x1 18446744073709551616=c4 at *;generalize dg x1 1208925819614629174706176=c5 at *;generalize dg x1 79228162514264337593543950336=c6 at *;generalize dg x1 5192296858534827628530496329220096=c7 at *;generalize dg x1 340282366920938463463374607431768211456=c8 at *;generalize dg x1 22300745198530623141535718272648361505980416=c9 at *;generalize dg x1 1461501637330902918203684832716283019655932542976=c10 at *;generalize dg x1 95780971304118053647396689196894323976171195136475136=c11 at *;(try simp only[IntKind.wrap_i64]);omega);show Value.tuple #[Value.agg #[Value.int .i64 (IntKind.i64.wrap (((((((dg x1 5192296858534827628530496329220096)*65536)+(dg x1 79228162514264337593543950336))*65536)+(dg x1 1208925819614629174706176))*65536)+(dg x1 18446744073709551616))),Value.int .u64 (((((((dg x1 281474976710656)*65536)+(dg x1 4294967296))*65536)+(dg x1 65536))*65536)+(dg x1 1))],Value.int .i64 0]=_;rw[eh,el]
 refine aG (.cmp .lt (.lit 170141183460469231731687303715884105728) (.var 1)) (fun h1=>?_) (fun h1=>?_)
 ·skip
  refine aE aX7 ?_
  refine⟨rfl,?_⟩;simp only[nn,G,wG,nq]at *;unfold hJ;rw[if_neg (by split<;>omega)]<;>rfl
 refine aG (.cmp .eq (.var 0) (.lit 0)) (fun h2=>?_) (fun h2=>?_)
 ·skip
  refine aE aYX ?_
  refine⟨rfl,?_⟩;simp only[nn,G,wG,nq]at *;unfold hJ;rw[if_neg (by split<;>omega)]<;>rfl
 refine aE aVH ?_
 refine⟨rfl,?_⟩;have hw:(if x0=0 then x1 else 0-x1)=(0-x1):=(by simp only[nn,G,wG,nq]at *;split<;>omega);have hb : -170141183460469231731687303715884105728≤(0-x1)∧(0-x1)≤170141183460469231731687303715884105727:=(by simp only[nn,G,wG,nq]at *;omega);unfold hJ;rw[hw,if_pos hb];have eh:(IntKind.i64.wrap (((((((dg (340282366920938463463374607431768211456-x1) 5192296858534827628530496329220096)*65536)+(dg (340282366920938463463374607431768211456-x1) 79228162514264337593543950336))*65536)+(dg (340282366920938463463374607431768211456-x1) 1208925819614629174706176))*65536)+(dg (340282366920938463463374607431768211456-x1) 18446744073709551616)))=hi (0-x1):=(by unfold hi;have hx:0≤(340282366920938463463374607431768211456-x1)∧(340282366920938463463374607431768211456-x1)≤340282366920938463463374607431768211455:=(by simp only[nn,G,wG,nq]at *;omega);clear h0;have ha:=eR (340282366920938463463374607431768211456-x1) (by omega) (by omega);have d0:=dg_bd (340282366920938463463374607431768211456-x1) 1;have d1:=dg_bd (340282366920938463463374607431768211456-x1) 65536;have d2:=dg_bd (340282366920938463463374607431768211456-x1) 4294967296;have d3:=dg_bd (340282366920938463463374607431768211456-x1) 281474976710656;have d4:=dg_bd (340282366920938463463374607431768211456-x1) 18446744073709551616;have d5:=dg_bd (340282366920938463463374607431768211456-x1) 1208925819614629174706176;have d6:=dg_bd (340282366920938463463374607431768211456-x1) 79228162514264337593543950336;have d7:=dg_bd (340282366920938463463374607431768211456-x1) 5192296858534827628530496329220096;have d8:=dg_bd (340282366920938463463374607431768211456-x1) 340282366920938463463374607431768211456;have d9:=dg_bd (340282366920938463463374607431768211456-x1) 22300745198530623141535718272648361505980416;have d10:=dg_bd (340282366920938463463374607431768211456-x1) 1461501637330902918203684832716283019655932542976;have d11:=dg_bd (340282366920938463463374607431768211456-x1) 95780971304118053647396689196894323976171195136475136;generalize dg (340282366920938463463374607431768211456-x1) 1=c0 at *;generalize dg (340282366920938463463374607431768211456-x1) 65536=c1 at *;generalize dg (340282366920938463463374607431768211456-x1) 4294967296=c2 at *;generalize dg (340282366920938463463374607431768211456-x1) 281474976710656=c3 at *;generalize dg (340282366920938463463374607431768211456-x1) 18446744073709551616=c4 at *;generalize dg (340282366920938463463374607431768211456-x1) 1208925819614629174706176=c5 at *;generalize dg (340282366920938463463374607431768211456-x1) 79228162514264337593543950336=c6 at *;generalize dg (340282366920938463463374607431768211456-x1) 5192296858534827628530496329220096=c7 at *;generalize dg (340282366920938463463374607431768211456-x1) 340282366920938463463374607431768211456=c8 at *;generalize dg (340282366920938463463374607431768211456-x1) 22300745198530623141535718272648361505980416=c9 at *;generalize dg (340282366920938463463374607431768211456-x1) 1461501637330902918203684832716283019655932542976=c10 at *;generalize dg (340282366920938463463374607431768211456-x1) 95780971304118053647396689196894323976171195136475136=c11 at *;(try simp only[IntKind.wrap_i64]);omega);have el:(((((((dg (340282366920938463463374607431768211456-x1) 281474976710656)*65536)+(dg (340282366920938463463374607431768211456-x1) 4294967296))*65536)+(dg (340282366920938463463374607431768211456-x1) 65536))*65536)+(dg (340282366920938463463374607431768211456-x1) 1))=lo (0-x1):=(by unfold lo;have hx:0≤(340282366920938463463374607431768211456-x1)∧(340282366920938463463374607431768211456-x1)≤340282366920938463463374607431768211455:=(by simp only[nn,G,wG,nq]at *;omega);clear h0;have ha:=eR (340282366920938463463374607431768211456-x1) (by omega) (by omega);have d0:=dg_bd (340282366920938463463374607431768211456-x1) 1;have d1:=dg_bd (340282366920938463463374607431768211456-x1) 65536;have d2:=dg_bd (340282366920938463463374607431768211456-x1) 4294967296;have d3:=dg_bd (340282366920938463463374607431768211456-x1) 281474976710656;have d4:=dg_bd (340282366920938463463374607431768211456-x1) 18446744073709551616;have d5:=dg_bd (340282366920938463463374607431768211456-x1) 1208925819614629174706176;have d6:=dg_bd (340282366920938463463374607431768211456-x1) 79228162514264337593543950336;have d7:=dg_bd (340282366920938463463374607431768211456-x1) 5192296858534827628530496329220096;have d8:=dg_bd (340282366920938463463374607431768211456-x1) 340282366920938463463374607431768211456;have d9:=dg_bd (340282366920938463463374607431768211456-x1) 22300745198530623141535718272648361505980416;have d10:=dg_bd (340282366920938463463374607431768211456-x1) 1461501637330902918203684832716283019655932542976;have d11:=dg_bd (340282366920938463463374607431768211456-x1) 95780971304118053647396689196894323976171195136475136;generalize dg (340282366920938463463374607431768211456-x1) 1=c0 at *;generalize dg (340282366920938463463374607431768211456-x1) 65536=c1 at *;generalize dg (340282366920938463463374607431768211456-x1) 4294967296=c2 at *;generalize dg (340282366920938463463374607431768211456-x1) 281474976710656=c3 at *;generalize dg (340282366920938463463374607431768211456-x1) 18446744073709551616=c4 at *;generalize dg (340282366920938463463374607431768211456-x1) 1208925819614629174706176=c5 at *;generalize dg (340282366920938463463374607431768211456-x1) 79228162514264337593543950336=c6 at *;generalize dg (340282366920938463463374607431768211456-x1) 5192296858534827628530496329220096=c7 at *;generalize dg (340282366920938463463374607431768211456-x1) 340282366920938463463374607431768211456=c8 at *;generalize dg (340282366920938463463374607431768211456-x1) 22300745198530623141535718272648361505980416=c9 at *;generalize dg (340282366920938463463374607431768211456-x1) 1461501637330902918203684832716283019655932542976=c10 at *;generalize dg (340282366920938463463374607431768211456-x1) 95780971304118053647396689196894323976171195136475136=c11 at *;(try simp only[IntKind.wrap_i64]);omega);show Value.tuple #[Value.agg #[Value.int .i64 (IntKind.i64.wrap (((((((dg (340282366920938463463374607431768211456-x1) 5192296858534827628530496329220096)*65536)+(dg (340282366920938463463374607431768211456-x1) 79228162514264337593543950336))*65536)+(dg (340282366920938463463374607431768211456-x1) 1208925819614629174706176))*65536)+(dg (340282366920938463463374607431768211456-x1) 18446744073709551616))),Value.int .u64 (((((((dg (340282366920938463463374607431768211456-x1) 281474976710656)*65536)+(dg (340282366920938463463374607431768211456-x1) 4294967296))*65536)+(dg (340282366920938463463374607431768211456-x1) 65536))*65536)+(dg (340282366920938463463374607431768211456-x1) 1))],Value.int .i64 0]=_;rw[eh,el]
set_option maxRecDepth 100000
open Go Go.RowKit Sx Wi
def aY (P:Program) (fs:List B):Res SV:=bK G GI [(0,1),(0,1532495540865888858358347027150309183618739122183602176),(0,1),(1,1532495540865888858358347027150309183618739122183602176)] fs (fun X=>gU P X GB iL 3000 139 [.agg (.bool (.cmp .ne (.var 0) (.lit 0))::aK (.var 1)),.agg (.bool (.cmp .ne (.var 2) (.lit 0))::aK (.var 3))])
def aAf:List B:=[]
def aAe:B:=(.cmp .ne (.var 2) (.lit 0))
def aAY:List B:=aH aAe++aAf
def aAi:B:=(.cmp .eq (.var 0) (.lit 0))
def aAG:List B:=aH aAi++aAY
def aAz:B:=(.cmp .lt (.op .add (.var 1) (.var 1)) (.var 3))
def aJa:List B:=aH aAz++aAG
def aJf:B:=(.cmp .le (.lit 0) (.op .sub (.var 3) (.op .add (.var 1) (.var 1))))
def aJ4:List B:=aH aJf++aJa
def zJ:List B:=aH (B.neg aAz)++aAG
def aAF:B:=(.cmp .lt (.var 3) (.op .add (.var 1) (.var 1)))
def aJj:List B:=aH aAF++zJ
def aIU:B:=(.cmp .le (.lit 0) zza)
def zO:List B:=aH aIU++aJj
def aAQ:B:=(.cmp .ne (.app 30 (.cons zzc (.cons (.lit 1) .nil))) (.lit 0))
def aIC:List B:=aH aAQ++zO
def vC:List B:=aH (B.neg aAQ)++zO
def tM:B:=(.cmp .ne (.app 30 (.cons zzc (.cons (.lit 65536) .nil))) (.lit 0))
def aDS:List B:=aH tM++vC
def tT:List B:=aH (B.neg tM)++vC
def uY:B:=(.cmp .ne (.app 30 (.cons zzc (.cons (.lit 4294967296) .nil))) (.lit 0))
def aDp:List B:=aH uY++tT
def uR:List B:=aH (B.neg uY)++tT
def wI:B:=(.cmp .ne (.app 30 (.cons zzc (.cons (.lit 281474976710656) .nil))) (.lit 0))
def aFZ:List B:=aH wI++uR
def uT:List B:=aH (B.neg wI)++uR
def vO:B:=(.cmp .ne (.app 30 (.cons zzc (.cons (.lit zq4) .nil))) (.lit 0))
def aIa:List B:=aH vO++uT
def yF:List B:=aH (B.neg vO)++uT
def xO:B:=(.cmp .ne (.app 30 (.cons zzc (.cons (.lit zq5) .nil))) (.lit 0))
def aEk:List B:=aH xO++yF
def tR:List B:=aH (B.neg xO)++yF
def xA:B:=(.cmp .ne (.app 30 (.cons zzc (.cons (.lit zq6) .nil))) (.lit 0))
def aDI:List B:=aH xA++tR
def uJ:List B:=aH (B.neg xA)++tR
def uS:B:=(.cmp .ne (.app 30 (.cons zzc (.cons (.lit zq7) .nil))) (.lit 0))
def aEW:List B:=aH uS++uJ
def wB:List B:=aH (B.neg uS)++uJ
def uF:B:=(.cmp .ne (.app 30 (.cons zzc (.cons (.lit zq8) .nil))) (.lit 0))
def aE1:List B:=aH uF++wB
def vQ:List B:=aH (B.neg uF)++wB
def vD:B:=(.cmp .ne (.app 30 (.cons zzc (.cons (.lit zq9) .nil))) (.lit 0))
def aFQ:List B:=aH vD++vQ
def vV:List B:=aH (B.neg vD)++vQ
def tO:B:=(.cmp .ne (.app 30 (.cons zzc (.cons (.lit zq10) .nil))) (.lit 0))
def aGT:List B:=aH tO++vV
def xK:List B:=aH (B.neg tO)++vV
def yJ:B:=(.cmp .ne (.app 30 (.cons zzc (.cons (.lit zq11) .nil))) (.lit 0))
def aD5:List B:=aH yJ++xK
def aHe:List B:=aH (B.neg yJ)++xK
def aEL:List B:=aH (B.neg aAF)++zJ
def aHX:B:=(.cmp .le (.lit 0) zza)
def tS:List B:=aH aHX++aEL
def xL:B:=(.cmp .ne (.app 30 (.cons zzc (.cons (.lit 1) .nil))) (.lit 0))
def aEc:List B:=aH xL++tS
def yO:List B:=aH (B.neg xL)++tS
def wF:B:=(.cmp .ne (.app 30 (.cons zzc (.cons (.lit 65536) .nil))) (.lit 0))
def aGN:List B:=aH wF++yO
def wA:List B:=aH (B.neg wF)++yO
def vX:B:=(.cmp .ne (.app 30 (.cons zzc (.cons (.lit 4294967296) .nil))) (.lit 0))
def aEs:List B:=aH vX++wA
def yK:List B:=aH (B.neg vX)++wA
def uO:B:=(.cmp .ne (.app 30 (.cons zzc (.cons (.lit 281474976710656) .nil))) (.lit 0))
def aE0:List B:=aH uO++yK
def tW:List B:=aH (B.neg uO)++yK
def vU:B:=(.cmp .ne (.app 30 (.cons zzc (.cons (.lit zq4) .nil))) (.lit 0))
def aE4:List B:=aH vU++tW
def yI:List B:=aH (B.neg vU)++tW
def uQ:B:=(.cmp .ne (.app 30 (.cons zzc (.cons (.lit zq5) .nil))) (.lit 0))
def aEA:List B:=aH uQ++yI
def yD:List B:=aH (B.neg uQ)++yI
def vY:B:=(.cmp .ne (.app 30 (.cons zzc (.cons (.lit zq6) .nil))) (.lit 0))
def aHh:List B:=aH vY++yD
def tY:List B:=aH (B.neg vY)++yD
def xH:B:=(.cmp .ne (.app 30 (.cons zzc (.cons (.lit zq7) .nil))) (.lit 0))
def aEa:List B:=aH xH++tY
def vJ:List B:=aH (B.neg xH)++tY
def uC:B:=(.cmp .ne (.app 30 (.cons zzc (.cons (.lit zq8) .nil))) (.lit 0))
def aDB:List B:=aH uC++vJ
def vM:List B:=aH (B.neg uC)++vJ
def vS:B:=(.cmp .ne (.app 30 (.cons zzc (.cons (.lit zq9) .nil))) (.lit 0))
def aF7:List B:=aH vS++vM
def wD:List B:=aH (B.neg vS)++vM
def xP:B:=(.cmp .ne (.app 30 (.cons zzc (.cons (.lit zq10) .nil))) (.lit 0))
def aDr:List B:=aH xP++wD
def wV:List B:=aH (B.neg xP)++wD
def yE:B:=(.cmp .ne (.app 30 (.cons zzc (.cons (.lit zq11) .nil))) (.lit 0))
def aEr:List B:=aH yE++wV
def aGM:List B:=aH (B.neg yE)++wV
def aHK:List B:=aH (B.neg aAi)++aAY
def wE:List B:=aH (B.neg aAe)++aAf
def uK:B:=(.cmp .ne (.var 0) (.lit 0))
def vB:List B:=aH uK++wE
def xB:B:=(.cmp .lt (.op .add (.var 1) (.var 1)) (.var 3))
def aFx:List B:=aH xB++vB
def aGj:B:=(.cmp .le (.lit 0) (.op .sub (.var 3) (.op .add (.var 1) (.var 1))))
def aFR:List B:=aH aGj++aFx
def uV:List B:=aH (B.neg xB)++vB
def xY:B:=(.cmp .lt (.var 3) (.op .add (.var 1) (.var 1)))
def aG5:List B:=aH xY++uV
def aGJ:B:=(.cmp .le (.lit 0) zza)
def xE:List B:=aH aGJ++aG5
def yL:B:=(.cmp .ne (.app 30 (.cons zzc (.cons (.lit 1) .nil))) (.lit 0))
def aGb:List B:=aH yL++xE
def vT:List B:=aH (B.neg yL)++xE
def xD:B:=(.cmp .ne (.app 30 (.cons zzc (.cons (.lit 65536) .nil))) (.lit 0))
def aEH:List B:=aH xD++vT
def uD:List B:=aH (B.neg xD)++vT
def wP:B:=(.cmp .ne (.app 30 (.cons zzc (.cons (.lit 4294967296) .nil))) (.lit 0))
def aIb:List B:=aH wP++uD
def xU:List B:=aH (B.neg wP)++uD
def xN:B:=(.cmp .ne (.app 30 (.cons zzc (.cons (.lit 281474976710656) .nil))) (.lit 0))
def aFW:List B:=aH xN++xU
def tP:List B:=aH (B.neg xN)++xU
def uN:B:=(.cmp .ne (.app 30 (.cons zzc (.cons (.lit zq4) .nil))) (.lit 0))
def aHt:List B:=aH uN++tP
def wW:List B:=aH (B.neg uN)++tP
def yP:B:=(.cmp .ne (.app 30 (.cons zzc (.cons (.lit zq5) .nil))) (.lit 0))
def aEY:List B:=aH yP++wW
def xI:List B:=aH (B.neg yP)++wW
def vR:B:=(.cmp .ne (.app 30 (.cons zzc (.cons (.lit zq6) .nil))) (.lit 0))
def aF8:List B:=aH vR++xI
def uW:List B:=aH (B.neg vR)++xI
def vL:B:=(.cmp .ne (.app 30 (.cons zzc (.cons (.lit zq7) .nil))) (.lit 0))
def aIh:List B:=aH vL++uW
def vF:List B:=aH (B.neg vL)++uW
def wH:B:=(.cmp .ne (.app 30 (.cons zzc (.cons (.lit zq8) .nil))) (.lit 0))
def aFV:List B:=aH wH++vF
def uH:List B:=aH (B.neg wH)++vF
def vI:B:=(.cmp .ne (.app 30 (.cons zzc (.cons (.lit zq9) .nil))) (.lit 0))
def aEU:List B:=aH vI++uH
def wM:List B:=aH (B.neg vI)++uH
def wY:B:=(.cmp .ne (.app 30 (.cons zzc (.cons (.lit zq10) .nil))) (.lit 0))
def aFY:List B:=aH wY++wM
def yR:List B:=aH (B.neg wY)++wM
def tQ:B:=(.cmp .ne (.app 30 (.cons zzc (.cons (.lit zq11) .nil))) (.lit 0))
def aHS:List B:=aH tQ++yR
def aHc:List B:=aH (B.neg tQ)++yR
def aEC:List B:=aH (B.neg xY)++uV
def aDL:B:=(.cmp .le (.lit 0) zza)
def tI:List B:=aH aDL++aEC
def xQ:B:=(.cmp .ne (.app 30 (.cons zzc (.cons (.lit 1) .nil))) (.lit 0))
def aIe:List B:=aH xQ++tI
def uZ:List B:=aH (B.neg xQ)++tI
def uL:B:=(.cmp .ne (.app 30 (.cons zzc (.cons (.lit 65536) .nil))) (.lit 0))
def aFw:List B:=aH uL++uZ
def qN:List B:=aH (B.neg uL)++uZ
def qA:B:=(.cmp .ne (.app 30 (.cons zzc (.cons (.lit 4294967296) .nil))) (.lit 0))
def aCT:List B:=aH qA++qN
def pU:List B:=aH (B.neg qA)++qN
def qL:B:=(.cmp .ne (.app 30 (.cons zzc (.cons (.lit 281474976710656) .nil))) (.lit 0))
def aCZ:List B:=aH qL++pU
def qS:List B:=aH (B.neg qL)++pU
def qQ:B:=(.cmp .ne (.app 30 (.cons zzc (.cons (.lit zq4) .nil))) (.lit 0))
def aC5:List B:=aH qQ++qS
def qD:List B:=aH (B.neg qQ)++qS
def qK:B:=(.cmp .ne (.app 30 (.cons zzc (.cons (.lit zq5) .nil))) (.lit 0))
def aCX:List B:=aH qK++qD
def rB:List B:=aH (B.neg qK)++qD
def qY:B:=(.cmp .ne (.app 30 (.cons zzc (.cons (.lit zq6) .nil))) (.lit 0))
def aCC:List B:=aH qY++rB
def qE:List B:=aH (B.neg qY)++rB
def qT:B:=(.cmp .ne (.app 30 (.cons zzc (.cons (.lit zq7) .nil))) (.lit 0))
def aCr:List B:=aH qT++qE
def rG:List B:=aH (B.neg qT)++qE
def qP:B:=(.cmp .ne (.app 30 (.cons zzc (.cons (.lit zq8) .nil))) (.lit 0))
def aCF:List B:=aH qP++rG
def rE:List B:=aH (B.neg qP)++rG
def pT:B:=(.cmp .ne (.app 30 (.cons zzc (.cons (.lit zq9) .nil))) (.lit 0))
def aC4:List B:=aH pT++rE
def rA:List B:=aH (B.neg pT)++rE
def rI:B:=(.cmp .ne (.app 30 (.cons zzc (.cons (.lit zq10) .nil))) (.lit 0))
def aCP:List B:=aH rI++rA
def rC:List B:=aH (B.neg rI)++rA
def rF:B:=(.cmp .ne (.app 30 (.cons zzc (.cons (.lit zq11) .nil))) (.lit 0))
def aCj:List B:=aH rF++rC
def aCy:List B:=aH (B.neg rF)++rC
def aCB:List B:=aH (B.neg uK)++wE
end Go.Proofs.Ytkpdiehbaiepaaa
