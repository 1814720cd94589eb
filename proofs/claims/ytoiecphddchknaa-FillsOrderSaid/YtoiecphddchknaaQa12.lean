/- What is proved: the law FillsOrder: its states. No condition but the numbers' own bounds. -/
import Derived.Test.YtoiecphddchknaaQa11
import Derived.Test.YtoiecphddchknaaQNn
set_option linter.unusedSimpArgs false
set_option linter.unusedVariables false
namespace Go.Proofs.Ytoiecphddchknaa
open Go Go.RowKit Sx Wi
def aQz:St:=⟨[(.own 0 (.var 0) none),.any,(.int .u8 (.var 49)),.any,(.ptr 1 0),.any,.any,(.own 2 (.var 50) none),(.int .i64 (.var 50)),.any,.any,.any,.any,.any,.any,.any,.any,.any,.any,.any,.any,.any,.any,.any,.any,.any,.any,.any,.any,.any,.any,.any,.any,.any,.any,.any,.any,.any,.any,.any,.any,.any,.any,.any,.any,.any,.any,.any,.any,.any,.any,.any,.any,.any,.any,.any,.any,.any,.any,.any,.any,.any,.any,.any,.any,.any,.any,.any,.any,.any,.any,.any,.any,.any,.any,.any,.any,.any,.any,.any,.any,.any,.any,.any,.any,.any,.any,.any,.any,.any,.any,.any,.any,.any,.any,.any,.any,.any,.any,.any],[some ([.vec [.int .i64,.int .i64,.int .i64,.int .i64,.int .i64,.int .i64,.int .i32,.int .i32,.int .i32,.int .i32,.int .i32,.int .i32,.int .i64,.int .u64,.int .i64,.int .i64,.int .u64,.int .i64,.int .i64,.int .u64,.int .i64,.int .i64,.int .u64,.int .i64,.int .i64,.int .u64,.int .i64,.int .i64,.int .u64,.int .i64,.int .i64,.int .u64,.int .i64,.int .i64,.int .u64,.int .i64,.int .i64,.int .u64,.int .i64,.int .i64,.int .u64,.int .i64,.int .i64,.int .u64,.int .i64,.int .i64,.int .u64,.int .i64,.int .i64,.int .u64,.int .i64,.int .i64,.int .u64,.int .i64,.int .i64,.int .u64,.int .i64,.int .i64,.int .u64,.int .i64,.int .i64,.int .i64] (.var 51) (.var 0) true],dA),some ([(.int .i64 (.var 1)),(.int .u64 (.var 2)),(.int .i64 (.var 3)),(.int .i64 (.var 4)),(.int .u64 (.var 5)),(.int .i64 (.var 6)),(.int .i64 (.var 7)),(.int .u64 (.var 8)),(.int .i64 (.var 9)),(.int .i64 (.var 10)),(.int .u64 (.var 11)),(.int .i64 (.var 12)),(.int .i64 (.var 13)),(.int .u64 (.var 14)),(.int .i64 (.var 15)),(.int .i64 (.var 16)),(.int .u64 (.var 17)),(.int .i64 (.var 18)),(.int .i64 (.var 19)),(.int .u64 (.var 20)),(.int .i64 (.var 21)),(.int .i64 (.var 22)),(.int .u64 (.var 23)),(.int .i64 (.var 24)),(.int .i64 (.var 25)),(.int .u64 (.var 26)),(.int .i64 (.var 27)),(.int .i64 (.var 28)),(.int .u64 (.var 29)),(.int .i64 (.var 30)),(.int .i64 (.var 31)),(.int .u64 (.var 32)),(.int .i64 (.var 33)),(.int .i64 (.var 34)),(.int .u64 (.var 35)),(.int .i64 (.var 36)),(.int .i64 (.var 37)),(.int .u64 (.var 38)),(.int .i64 (.var 39)),(.int .i64 (.var 40)),(.int .u64 (.var 41)),(.int .i64 (.var 42)),(.int .i64 (.var 43)),(.int .u64 (.var 44)),(.int .i64 (.var 45)),(.int .i64 (.var 46)),(.int .u64 (.var 47)),(.int .i64 (.var 48))],71),some ([.vec [.int .i64,.int .i64,.int .i64,.int .i64,.int .i64,.int .i64,.int .i32,.int .i32,.int .i32,.int .i32,.int .i32,.int .i32,.int .i64,.int .u64,.int .i64,.int .i64,.int .u64,.int .i64,.int .i64,.int .u64,.int .i64,.int .i64,.int .u64,.int .i64,.int .i64,.int .u64,.int .i64,.int .i64,.int .u64,.int .i64,.int .i64,.int .u64,.int .i64,.int .i64,.int .u64,.int .i64,.int .i64,.int .u64,.int .i64,.int .i64,.int .u64,.int .i64,.int .i64,.int .u64,.int .i64,.int .i64,.int .u64,.int .i64,.int .i64,.int .u64,.int .i64,.int .i64,.int .u64,.int .i64,.int .i64,.int .u64,.int .i64,.int .i64,.int .u64,.int .i64,.int .i64,.int .i64] (.var 52) (.var 50) false],bC+73)]⟩
def aNO:St:=⟨[(.own 0 (.var 0) none),.any,(.int .u8 (.var 49)),.any,.any,.any,.any,(.own 2 (.var 0) none),.any,.any,.any,.any,.any,.any,.any,.any,.any,.any,.any,.any,.any,.any,.any,.any,.any,.any,.any,.any,.any,.any,.any,.any,.any,.any,.any,.any,.any,.any,.any,.any,.any,.any,.any,.any,.any,.any,.any,.any,.any,.any,.any,.any,.any,.any,.any,.any,.any,.any,.any,.any,.any,.any,.any,.any,.any,.any,.any,.any,.any,.any,.any,.any,.any,.any,.any,.any,.any,.any,.any,.any,.any,.any,.any,.any,.any,.any,.any,.any,.any,.any,.any,.any,.any,.any,.any,.any,.any,.any,.any,.any],[some ([.vec [.int .i64,.int .i64,.int .i64,.int .i64,.int .i64,.int .i64,.int .i32,.int .i32,.int .i32,.int .i32,.int .i32,.int .i32,.int .i64,.int .u64,.int .i64,.int .i64,.int .u64,.int .i64,.int .i64,.int .u64,.int .i64,.int .i64,.int .u64,.int .i64,.int .i64,.int .u64,.int .i64,.int .i64,.int .u64,.int .i64,.int .i64,.int .u64,.int .i64,.int .i64,.int .u64,.int .i64,.int .i64,.int .u64,.int .i64,.int .i64,.int .u64,.int .i64,.int .i64,.int .u64,.int .i64,.int .i64,.int .u64,.int .i64,.int .i64,.int .u64,.int .i64,.int .i64,.int .u64,.int .i64,.int .i64,.int .u64,.int .i64,.int .i64,.int .u64,.int .i64,.int .i64,.int .i64] (.var 50) (.var 0) true],dA),none,some ([.vec [.int .i64,.int .i64,.int .i64,.int .i64,.int .i64,.int .i64,.int .i32,.int .i32,.int .i32,.int .i32,.int .i32,.int .i32,.int .i64,.int .u64,.int .i64,.int .i64,.int .u64,.int .i64,.int .i64,.int .u64,.int .i64,.int .i64,.int .u64,.int .i64,.int .i64,.int .u64,.int .i64,.int .i64,.int .u64,.int .i64,.int .i64,.int .u64,.int .i64,.int .i64,.int .u64,.int .i64,.int .i64,.int .u64,.int .i64,.int .i64,.int .u64,.int .i64,.int .i64,.int .u64,.int .i64,.int .i64,.int .u64,.int .i64,.int .i64,.int .u64,.int .i64,.int .i64,.int .u64,.int .i64,.int .i64,.int .u64,.int .i64,.int .i64,.int .u64,.int .i64,.int .i64,.int .i64] (.app 44 (.cons (.var 50) (.cons (.var 0) (.cons (.var 1) (.cons (.var 2) (.cons (.var 3) (.cons (.var 4) (.cons (.var 5) (.cons (.var 6) (.cons (.var 7) (.cons (.var 8) (.cons (.var 9) (.cons (.var 10) (.cons (.var 11) (.cons (.var 12) (.cons (.var 13) (.cons (.var 14) (.cons (.var 15) (.cons (.var 16) (.cons (.var 17) (.cons (.var 18) (.cons (.var 19) (.cons (.var 20) (.cons (.var 21) (.cons (.var 22) (.cons (.var 23) (.cons (.var 24) (.cons (.var 25) (.cons (.var 26) (.cons (.var 27) (.cons (.var 28) (.cons (.var 29) (.cons (.var 30) (.cons (.var 31) (.cons (.var 32) (.cons (.var 33) (.cons (.var 34) (.cons (.var 35) (.cons (.var 36) (.cons (.var 37) (.cons (.var 38) (.cons (.var 39) (.cons (.var 40) (.cons (.var 41) (.cons (.var 42) (.cons (.var 43) (.cons (.var 44) (.cons (.var 45) (.cons (.var 46) (.cons (.var 47) (.cons (.var 48) (.cons (.app 83 (.cons (.var 50) (.cons (.lit 0) (.cons (.lit 60) .nil)))) .nil)))))))))))))))))))))))))))))))))))))))))))))))))))) (.var 0) false],bC+73)]⟩
def aNP:LoopS:=⟨50,2,aQz,.lit true,.exit 0,aNO,.exit 0,aNO⟩
def tT:List (Int × Int):=[(0,30),((-9223372036854775808),9223372036854775807),(0,18446744073709551615),((-9223372036854775808),9223372036854775807),((-9223372036854775808),9223372036854775807),(0,18446744073709551615),((-9223372036854775808),9223372036854775807),((-9223372036854775808),9223372036854775807),(0,18446744073709551615),((-9223372036854775808),9223372036854775807),((-9223372036854775808),9223372036854775807),(0,18446744073709551615),((-9223372036854775808),9223372036854775807),((-9223372036854775808),9223372036854775807),(0,18446744073709551615),((-9223372036854775808),9223372036854775807),((-9223372036854775808),9223372036854775807),(0,18446744073709551615),((-9223372036854775808),9223372036854775807),((-9223372036854775808),9223372036854775807),(0,18446744073709551615),((-9223372036854775808),9223372036854775807),((-9223372036854775808),9223372036854775807),(0,18446744073709551615),((-9223372036854775808),9223372036854775807),((-9223372036854775808),9223372036854775807),(0,18446744073709551615),((-9223372036854775808),9223372036854775807),((-9223372036854775808),9223372036854775807),(0,18446744073709551615),((-9223372036854775808),9223372036854775807),((-9223372036854775808),9223372036854775807),(0,18446744073709551615),((-9223372036854775808),9223372036854775807),((-9223372036854775808),9223372036854775807),(0,18446744073709551615),((-9223372036854775808),9223372036854775807),((-9223372036854775808),9223372036854775807),(0,18446744073709551615),((-9223372036854775808),9223372036854775807),((-9223372036854775808),9223372036854775807),(0,18446744073709551615),((-9223372036854775808),9223372036854775807),((-9223372036854775808),9223372036854775807),(0,18446744073709551615),((-9223372036854775808),9223372036854775807),((-9223372036854775808),9223372036854775807),(0,18446744073709551615),((-9223372036854775808),9223372036854775807),(0,255),(0,30)]
def aPU:List (Int × Int):=[(0,9223372036854775807),((-9223372036854775808),9223372036854775807),(0,18446744073709551615),((-9223372036854775808),9223372036854775807),((-9223372036854775808),9223372036854775807),(0,18446744073709551615),((-9223372036854775808),9223372036854775807),((-9223372036854775808),9223372036854775807),(0,18446744073709551615),((-9223372036854775808),9223372036854775807),((-9223372036854775808),9223372036854775807),(0,18446744073709551615),((-9223372036854775808),9223372036854775807),((-9223372036854775808),9223372036854775807),(0,18446744073709551615),((-9223372036854775808),9223372036854775807),((-9223372036854775808),9223372036854775807),(0,18446744073709551615),((-9223372036854775808),9223372036854775807),((-9223372036854775808),9223372036854775807),(0,18446744073709551615),((-9223372036854775808),9223372036854775807),((-9223372036854775808),9223372036854775807),(0,18446744073709551615),((-9223372036854775808),9223372036854775807),((-9223372036854775808),9223372036854775807),(0,18446744073709551615),((-9223372036854775808),9223372036854775807),((-9223372036854775808),9223372036854775807),(0,18446744073709551615),((-9223372036854775808),9223372036854775807),((-9223372036854775808),9223372036854775807),(0,18446744073709551615),((-9223372036854775808),9223372036854775807),((-9223372036854775808),9223372036854775807),(0,18446744073709551615),((-9223372036854775808),9223372036854775807),((-9223372036854775808),9223372036854775807),(0,18446744073709551615),((-9223372036854775808),9223372036854775807),((-9223372036854775808),9223372036854775807),(0,18446744073709551615),((-9223372036854775808),9223372036854775807),((-9223372036854775808),9223372036854775807),(0,18446744073709551615),((-9223372036854775808),9223372036854775807),((-9223372036854775808),9223372036854775807),(0,18446744073709551615),((-9223372036854775808),9223372036854775807),(0,255)]
def aIR:LoopU:=⟨aNP,[(.var 0),(.var 1),(.var 2),(.var 3),(.var 4),(.var 5),(.var 6),(.var 7),(.var 8),(.var 9),(.var 10),(.var 11),(.var 12),(.var 13),(.var 14),(.var 15),(.var 16),(.var 17),(.var 18),(.var 19),(.var 20),(.var 21),(.var 22),(.var 23),(.var 24),(.var 25),(.var 26),(.var 27),(.var 28),(.var 29),(.var 30),(.var 31),(.var 32),(.var 33),(.var 34),(.var 35),(.var 36),(.var 37),(.var 38),(.var 39),(.var 40),(.var 41),(.var 42),(.var 43),(.var 44),(.var 45),(.var 46),(.var 47),(.var 48),(.var 49),.lit 0,.var 50,.lit 0],tT,.lit true⟩
def sK (P:Program) (fs:List B):Res SV:=cV G GI tT fs fun X=>mY P X GB aF3 kC 4000 (fZ (eI P 7) 0) aNP
def aQv:St:=⟨[.any,.any,.any,.any,.any,.any,.any,.any,.any,.any,.any,.any,(.ptr 12 0),(.ptr 14 0),(.int .i64 (.var 0)),.any,.any,.any,.any,.any,.any,.any,.any,.any,.any,.any,.any,.any,.any,.any,.any,.any,.any,.any,.any,.any,.any,.any,.any,.any,.any,.any,.any,.any,.any,.any,.any,.any,.any,.any,.any,.any,.any,.any,.any,.any,.any,.any,.any,.any,.any,.any,.any,.any,.any,.any,.any,.any,.any,.any,.any,.any,.any,.any,.any,.any,.any,.any,.any,.any,.any,.any,.any,.any,.any,.any,.any,.any,.any,.any,.any,.any,.any,.any,.any,.any,.any,.any,.any,.any],[none,none,none,none,none,none,none,none,none,none,none,some ([.vec [.bool,.int .i64,.int .i32,.int .i32,.int .i32,.int .i32,.int .i32,.int .i32] (.var 3) (.lit 144) true],bC+46),some ([(.int .i64 (.lit 12)),(.int .i64 (.lit 12)),(.own 11 (.lit 144) (some (.lit 144)))],78),some ([.vec [.bool,.int .i64,.int .i32,.int .i32,.int .i32,.int .i32,.int .i32,.int .i32] (.var 4) (.lit 144) true],bC+46),some ([(.int .i64 (.lit 12)),(.int .i64 (.lit 12)),(.own 13 (.lit 144) (some (.lit 144)))],78)]⟩
def aNH:St:=⟨[.any,.any,.any,.any,.any,.any,.any,.any,.any,.any,.any,.any,.any,.any,.any,.any,.any,.any,.any,.any,.any,.any,.any,.any,.any,.any,.any,.any,.any,.any,.any,.any,.any,.any,.any,.any,.any,.any,.any,.any,.any,.any,.any,.any,.any,.any,.any,.any,.any,.any,.any,.any,.any,.any,.any,.any,.any,.any,.any,.any,.any,.any,.any,.any,.any,.any,.any,.any,.any,.any,.any,.any,.any,.any,.any,.any,.any,.any,.any,.any,.any,.any,.any,.any,.any,.any,.any,.any,.any,.any,.any,.any,.any,.any,.any,.any,.any,.any,.any,.any],[none,none,none,none,none,none,none,none,none,none,none,none,none,none,none]⟩
def aN4:LoopS:=⟨0,15,aQv,.lit true,.exit 2,aNH,.exit 2,aNH⟩
def tY:List (Int × Int):=[(0,144),(0,30),(0,255)]
def aFQ:LoopU:=⟨aN4,[.lit 0,.var 0,(.op .rem (.var 49) (.var 0)),(.app 43 (.cons (.app 44 (.cons (.var 50) (.cons (.var 0) (.cons (.var 1) (.cons (.var 2) (.cons (.var 3) (.cons (.var 4) (.cons (.var 5) (.cons (.var 6) (.cons (.var 7) (.cons (.var 8) (.cons (.var 9) (.cons (.var 10) (.cons (.var 11) (.cons (.var 12) (.cons (.var 13) (.cons (.var 14) (.cons (.var 15) (.cons (.var 16) (.cons (.var 17) (.cons (.var 18) (.cons (.var 19) (.cons (.var 20) (.cons (.var 21) (.cons (.var 22) (.cons (.var 23) (.cons (.var 24) (.cons (.var 25) (.cons (.var 26) (.cons (.var 27) (.cons (.var 28) (.cons (.var 29) (.cons (.var 30) (.cons (.var 31) (.cons (.var 32) (.cons (.var 33) (.cons (.var 34) (.cons (.var 35) (.cons (.var 36) (.cons (.var 37) (.cons (.var 38) (.cons (.var 39) (.cons (.var 40) (.cons (.var 41) (.cons (.var 42) (.cons (.var 43) (.cons (.var 44) (.cons (.var 45) (.cons (.var 46) (.cons (.var 47) (.cons (.var 48) (.cons (.app 83 (.cons (.var 50) (.cons (.lit 0) (.cons (.lit 60) .nil)))) .nil)))))))))))))))))))))))))))))))))))))))))))))))))))) (.cons (.var 0) .nil))),(.app 43 (.cons (.app 94 (.cons (.app 94 (.cons (.lit 0) (.cons (.app 95 (.cons (.app 44 (.cons (.var 50) (.cons (.var 0) (.cons (.var 1) (.cons (.var 2) (.cons (.var 3) (.cons (.var 4) (.cons (.var 5) (.cons (.var 6) (.cons (.var 7) (.cons (.var 8) (.cons (.var 9) (.cons (.var 10) (.cons (.var 11) (.cons (.var 12) (.cons (.var 13) (.cons (.var 14) (.cons (.var 15) (.cons (.var 16) (.cons (.var 17) (.cons (.var 18) (.cons (.var 19) (.cons (.var 20) (.cons (.var 21) (.cons (.var 22) (.cons (.var 23) (.cons (.var 24) (.cons (.var 25) (.cons (.var 26) (.cons (.var 27) (.cons (.var 28) (.cons (.var 29) (.cons (.var 30) (.cons (.var 31) (.cons (.var 32) (.cons (.var 33) (.cons (.var 34) (.cons (.var 35) (.cons (.var 36) (.cons (.var 37) (.cons (.var 38) (.cons (.var 39) (.cons (.var 40) (.cons (.var 41) (.cons (.var 42) (.cons (.var 43) (.cons (.var 44) (.cons (.var 45) (.cons (.var 46) (.cons (.var 47) (.cons (.var 48) (.cons (.app 83 (.cons (.var 50) (.cons (.lit 0) (.cons (.lit 60) .nil)))) .nil)))))))))))))))))))))))))))))))))))))))))))))))))))) (.cons (.op .rem (.var 49) (.var 0)) (.cons (.op .sub (.var 0) (.op .rem (.var 49) (.var 0))) .nil)))) .nil))) (.cons (.app 95 (.cons (.app 44 (.cons (.var 50) (.cons (.var 0) (.cons (.var 1) (.cons (.var 2) (.cons (.var 3) (.cons (.var 4) (.cons (.var 5) (.cons (.var 6) (.cons (.var 7) (.cons (.var 8) (.cons (.var 9) (.cons (.var 10) (.cons (.var 11) (.cons (.var 12) (.cons (.var 13) (.cons (.var 14) (.cons (.var 15) (.cons (.var 16) (.cons (.var 17) (.cons (.var 18) (.cons (.var 19) (.cons (.var 20) (.cons (.var 21) (.cons (.var 22) (.cons (.var 23) (.cons (.var 24) (.cons (.var 25) (.cons (.var 26) (.cons (.var 27) (.cons (.var 28) (.cons (.var 29) (.cons (.var 30) (.cons (.var 31) (.cons (.var 32) (.cons (.var 33) (.cons (.var 34) (.cons (.var 35) (.cons (.var 36) (.cons (.var 37) (.cons (.var 38) (.cons (.var 39) (.cons (.var 40) (.cons (.var 41) (.cons (.var 42) (.cons (.var 43) (.cons (.var 44) (.cons (.var 45) (.cons (.var 46) (.cons (.var 47) (.cons (.var 48) (.cons (.app 83 (.cons (.var 50) (.cons (.lit 0) (.cons (.lit 60) .nil)))) .nil)))))))))))))))))))))))))))))))))))))))))))))))))))) (.cons (.lit 0) (.cons (.op .rem (.var 49) (.var 0)) .nil)))) .nil))) (.cons (.op .add (.op .sub (.var 0) (.op .rem (.var 49) (.var 0))) (.op .rem (.var 49) (.var 0))) .nil)))],tY,.cmp .le (.var 2) (.var 1)⟩
def tV (P:Program) (fs:List B):Res SV:=cV G GI tY fs fun X=>mY P X GB aF3 kC 4000 (fZ (eI P 7) 1) aN4
def aN3:gX:=mZ 5 (jK (bV GB) [aIR]) (mZ 16 (jK (bV GB) [aFQ]) kC)
def aPQ:FunS:=⟨[(.own 0 (.var 0) none),(.agg [(.int .i64 (.var 1)),(.int .u64 (.var 2)),(.int .i64 (.var 3)),(.int .i64 (.var 4)),(.int .u64 (.var 5)),(.int .i64 (.var 6)),(.int .i64 (.var 7)),(.int .u64 (.var 8)),(.int .i64 (.var 9)),(.int .i64 (.var 10)),(.int .u64 (.var 11)),(.int .i64 (.var 12)),(.int .i64 (.var 13)),(.int .u64 (.var 14)),(.int .i64 (.var 15)),(.int .i64 (.var 16)),(.int .u64 (.var 17)),(.int .i64 (.var 18)),(.int .i64 (.var 19)),(.int .u64 (.var 20)),(.int .i64 (.var 21)),(.int .i64 (.var 22)),(.int .u64 (.var 23)),(.int .i64 (.var 24)),(.int .i64 (.var 25)),(.int .u64 (.var 26)),(.int .i64 (.var 27)),(.int .i64 (.var 28)),(.int .u64 (.var 29)),(.int .i64 (.var 30)),(.int .i64 (.var 31)),(.int .u64 (.var 32)),(.int .i64 (.var 33)),(.int .i64 (.var 34)),(.int .u64 (.var 35)),(.int .i64 (.var 36)),(.int .i64 (.var 37)),(.int .u64 (.var 38)),(.int .i64 (.var 39)),(.int .i64 (.var 40)),(.int .u64 (.var 41)),(.int .i64 (.var 42)),(.int .i64 (.var 43)),(.int .u64 (.var 44)),(.int .i64 (.var 45)),(.int .i64 (.var 46)),(.int .u64 (.var 47)),(.int .i64 (.var 48))]),(.int .u8 (.var 49))],[some ([.vec [.int .i64,.int .i64,.int .i64,.int .i64,.int .i64,.int .i64,.int .i32,.int .i32,.int .i32,.int .i32,.int .i32,.int .i32,.int .i64,.int .u64,.int .i64,.int .i64,.int .u64,.int .i64,.int .i64,.int .u64,.int .i64,.int .i64,.int .u64,.int .i64,.int .i64,.int .u64,.int .i64,.int .i64,.int .u64,.int .i64,.int .i64,.int .u64,.int .i64,.int .i64,.int .u64,.int .i64,.int .i64,.int .u64,.int .i64,.int .i64,.int .u64,.int .i64,.int .i64,.int .u64,.int .i64,.int .i64,.int .u64,.int .i64,.int .i64,.int .u64,.int .i64,.int .i64,.int .u64,.int .i64,.int .i64,.int .u64,.int .i64,.int .i64,.int .u64,.int .i64,.int .i64,.int .i64] (.var 50) (.var 0) true],dA)],.lit true,.bool (.lit true),[none],.bool (.lit true),[none]⟩
def aJJ (P:Program) (fs:List B):Res SV:=cV G GI aPU fs fun X=>nG P X GB aF3 aN3 4000 7 aPQ
end Go.Proofs.Ytoiecphddchknaa
set_option maxRecDepth 100000
namespace Go.Proofs.Ytoiecphddchknaa
open Go Go.RowKit Sx Wi
def aBT (P:Program) (fs:List B):Res SV:=aJJ P fs
def aB2:List B:=[]
def iT:B:=(.cmp .eq (.var 0) (.lit 0))
def aIJ:List B:=aM iT++aB2
def aC3:List B:=aM (B.neg iT)++aB2
def jQ:B:=(.cmp .lt (.lit 30) (.var 0))
def aKV:List B:=aM jQ++aC3
def aJs:List B:=aM (B.neg jQ)++aC3
def lV:B:=(.cmp .le (.op .rem (.var 49) (.var 0)) (.var 0))
def aJj:List B:=aM lV++aJs
def nO:B:=(.cmp .le (.op .add (.op .rem (.var 49) (.var 0)) (.op .sub (.var 0) (.op .rem (.var 49) (.var 0)))) (.var 0))
def aJZ:List B:=aM nO++aJj
def qZ:B:=(.cmp .lt (.lit 0) (.op .add (.op .sub (.var 0) (.op .rem (.var 49) (.var 0))) (.op .rem (.var 49) (.var 0))))
def aKX:List B:=aM qZ++aJZ
theorem aJ4:aBT Try.prog aIJ = .ok (.tuple [(.agg []),(.bool (.lit true))]):=by kernel_rfl
theorem aIW:aBT Try.prog aKV = .ok (.tuple [(.agg []),(.bool (.lit true))]):=by kernel_rfl
theorem aJv:aBT Try.prog aKX = .ok (.tuple [(.agg []),(.bool (.lit true))]):=by kernel_rfl
end Go.Proofs.Ytoiecphddchknaa
set_option maxRecDepth 100000
namespace Go.Proofs.Ytoiecphddchknaa
open Go Go.RowKit Sx Wi
def aB4 (P:Program) (fs:List B):Res SV:=sK P fs
def aAI:List B:=[]
def lN:B:=(.cmp .lt (.var 50) (.var 0))
def aH6:List B:=aM lN++aAI
def zS:SV:=(.agg [(.int .i64 (.op .add (.var 50) (.lit 1))),(.int .i64 (.var 50)),(.int .i64 (.op .add (.var 50) (.lit 1))),(.int .i64 (.var 50)),(.int .i64 (.var 51)),(.int .i64 (.var 51)),(.int .i64 (.app 91 (.cons (.var 52) (.cons (.app 83 (.cons (.var 51) (.cons (.var 50) (.cons (.lit 0) .nil)))) (.cons (.app 83 (.cons (.var 51) (.cons (.var 50) (.cons (.lit 1) .nil)))) (.cons (.app 83 (.cons (.var 51) (.cons (.var 50) (.cons (.lit 2) .nil)))) (.cons (.app 83 (.cons (.var 51) (.cons (.var 50) (.cons (.lit 3) .nil)))) (.cons (.app 83 (.cons (.var 51) (.cons (.var 50) (.cons (.lit 4) .nil)))) (.cons (.app 83 (.cons (.var 51) (.cons (.var 50) (.cons (.lit 5) .nil)))) (.cons (.app 82 (.cons (.var 51) (.cons (.var 50) (.cons (.lit 6) .nil)))) (.cons (.app 82 (.cons (.var 51) (.cons (.var 50) (.cons (.lit 7) .nil)))) (.cons (.app 82 (.cons (.var 51) (.cons (.var 50) (.cons (.lit 8) .nil)))) (.cons (.app 82 (.cons (.var 51) (.cons (.var 50) (.cons (.lit 9) .nil)))) (.cons (.app 82 (.cons (.var 51) (.cons (.var 50) (.cons (.lit 10) .nil)))) (.cons (.app 82 (.cons (.var 51) (.cons (.var 50) (.cons (.lit 11) .nil)))) (.cons (.var 1) (.cons (.var 2) (.cons (.var 3) (.cons (.var 4) (.cons (.var 5) (.cons (.var 6) (.cons (.var 7) (.cons (.var 8) (.cons (.var 9) (.cons (.var 10) (.cons (.var 11) (.cons (.var 12) (.cons (.var 13) (.cons (.var 14) (.cons (.var 15) (.cons (.var 16) (.cons (.var 17) (.cons (.var 18) (.cons (.var 19) (.cons (.var 20) (.cons (.var 21) (.cons (.var 22) (.cons (.var 23) (.cons (.var 24) (.cons (.var 25) (.cons (.var 26) (.cons (.var 27) (.cons (.var 28) (.cons (.var 29) (.cons (.var 30) (.cons (.var 31) (.cons (.var 32) (.cons (.var 33) (.cons (.var 34) (.cons (.var 35) (.cons (.var 36) (.cons (.var 37) (.cons (.var 38) (.cons (.var 39) (.cons (.var 40) (.cons (.var 41) (.cons (.var 42) (.cons (.var 43) (.cons (.var 44) (.cons (.var 45) (.cons (.var 46) (.cons (.var 47) (.cons (.var 48) (.cons (.app 83 (.cons (.var 51) (.cons (.lit 0) (.cons (.lit 60) .nil)))) (.cons (.app 83 (.cons (.var 51) (.cons (.var 50) (.cons (.lit 61) .nil)))) .nil))))))))))))))))))))))))))))))))))))))))))))))))))))))))))))))))),(.int .i64 (.var 52)),(.int .i64 (.op .add (.var 50) (.lit 1))),(.int .i64 (.var 50))])
def aH8:List B:=aM (B.neg lN)++aAI
def aAf:SV:=(.tuple [(.agg [(.int .i64 (.var 50)),(.int .i64 (.var 0)),(.int .i64 (.var 51)),(.int .i64 (.var 50)),(.int .i64 (.var 52)),(.int .i64 (.app 44 (.cons (.var 50) (.cons (.var 0) (.cons (.var 1) (.cons (.var 2) (.cons (.var 3) (.cons (.var 4) (.cons (.var 5) (.cons (.var 6) (.cons (.var 7) (.cons (.var 8) (.cons (.var 9) (.cons (.var 10) (.cons (.var 11) (.cons (.var 12) (.cons (.var 13) (.cons (.var 14) (.cons (.var 15) (.cons (.var 16) (.cons (.var 17) (.cons (.var 18) (.cons (.var 19) (.cons (.var 20) (.cons (.var 21) (.cons (.var 22) (.cons (.var 23) (.cons (.var 24) (.cons (.var 25) (.cons (.var 26) (.cons (.var 27) (.cons (.var 28) (.cons (.var 29) (.cons (.var 30) (.cons (.var 31) (.cons (.var 32) (.cons (.var 33) (.cons (.var 34) (.cons (.var 35) (.cons (.var 36) (.cons (.var 37) (.cons (.var 38) (.cons (.var 39) (.cons (.var 40) (.cons (.var 41) (.cons (.var 42) (.cons (.var 43) (.cons (.var 44) (.cons (.var 45) (.cons (.var 46) (.cons (.var 47) (.cons (.var 48) (.cons (.app 83 (.cons (.var 50) (.cons (.lit 0) (.cons (.lit 60) .nil)))) .nil))))))))))))))))))))))))))))))))))))))))))))))))))))),(.int .i64 (.var 50)),(.int .i64 (.var 0))]),(.bool (.lit true))])
theorem aGt:aB4 Try.prog aH6 = .ok zS:=by kernel_rfl
theorem aHJ:aB4 Try.prog aH8 = .ok aAf:=by kernel_rfl
end Go.Proofs.Ytoiecphddchknaa
namespace Go.Proofs.Ytoiecphddchknaa
open Go Go.RowKit Sx Wi
theorem aPx (L i:Int) (cs:List Int) (hi:0≤i):G 91 (G 44 (L::i::cs)::aBb ((Lc.dec L).getD i.toNat []) cs)=G 44 (L::(i+1)::cs):=by
 have e:G 91 (G 44 (L::i::cs)::aBb ((Lc.dec L).getD i.toNat []) cs)=Lc.enc (Lc.dec (G 44 (L::i::cs))++[aBb ((Lc.dec L).getD i.toNat []) cs]):=aP 91 _ (by decide) (by decide)
 rw[e]
 show Lc.enc (Lc.dec (Lc.enc ((List.range i.toNat).map fun k=>aBb ((Lc.dec L).getD k []) cs))++_)=Lc.enc ((List.range (i+1).toNat).map fun k=>aBb ((Lc.dec L).getD k []) cs)
 rw[Lc.dec_enc,show (i+1).toNat=i.toNat+1 by omega,List.range_succ,List.map_append]
 rfl
theorem aOV (L i x1 x2 x3 x4 x5 x6 x7 x8 x9 x10 x11 x12 x13 x14 x15 x16 x17 x18 x19 x20 x21 x22 x23 x24 x25 x26 x27 x28 x29 x30 x31 x32 x33 x34 x35 x36 x37 x38 x39 x40 x41 x42 x43 x44 x45 x46 x47 x48:Int) (hi:0≤i):G 91 [G 44 [L,i,x1,x2,x3,x4,x5,x6,x7,x8,x9,x10,x11,x12,x13,x14,x15,x16,x17,x18,x19,x20,x21,x22,x23,x24,x25,x26,x27,x28,x29,x30,x31,x32,x33,x34,x35,x36,x37,x38,x39,x40,x41,x42,x43,x44,x45,x46,x47,x48,G 83 [L,0,60]],G 83 [L,i,0],G 83 [L,i,1],G 83 [L,i,2],G 83 [L,i,3],G 83 [L,i,4],G 83 [L,i,5],G 82 [L,i,6],G 82 [L,i,7],G 82 [L,i,8],G 82 [L,i,9],G 82 [L,i,10],G 82 [L,i,11],x1,x2,x3,x4,x5,x6,x7,x8,x9,x10,x11,x12,x13,x14,x15,x16,x17,x18,x19,x20,x21,x22,x23,x24,x25,x26,x27,x28,x29,x30,x31,x32,x33,x34,x35,x36,x37,x38,x39,x40,x41,x42,x43,x44,x45,x46,x47,x48,G 83 [L,0,60],G 83 [L,i,61]]=G 44 [L,i+1,x1,x2,x3,x4,x5,x6,x7,x8,x9,x10,x11,x12,x13,x14,x15,x16,x17,x18,x19,x20,x21,x22,x23,x24,x25,x26,x27,x28,x29,x30,x31,x32,x33,x34,x35,x36,x37,x38,x39,x40,x41,x42,x43,x44,x45,x46,x47,x48,G 83 [L,0,60]]:=by
 have a0:G 83 [L,i,0]=(aW ((Lc.dec L).getD i.toNat [])).getD 0 0:=aP 83 _ (by decide) (by decide)
 have a1:G 83 [L,i,1]=(aW ((Lc.dec L).getD i.toNat [])).getD 1 0:=aP 83 _ (by decide) (by decide)
 have a2:G 83 [L,i,2]=(aW ((Lc.dec L).getD i.toNat [])).getD 2 0:=aP 83 _ (by decide) (by decide)
 have a3:G 83 [L,i,3]=(aW ((Lc.dec L).getD i.toNat [])).getD 3 0:=aP 83 _ (by decide) (by decide)
 have a4:G 83 [L,i,4]=(aW ((Lc.dec L).getD i.toNat [])).getD 4 0:=aP 83 _ (by decide) (by decide)
 have a5:G 83 [L,i,5]=(aW ((Lc.dec L).getD i.toNat [])).getD 5 0:=aP 83 _ (by decide) (by decide)
 have a6:G 82 [L,i,6]=(aW ((Lc.dec L).getD i.toNat [])).getD 6 0:=aP 82 _ (by decide) (by decide)
 have a7:G 82 [L,i,7]=(aW ((Lc.dec L).getD i.toNat [])).getD 7 0:=aP 82 _ (by decide) (by decide)
 have a8:G 82 [L,i,8]=(aW ((Lc.dec L).getD i.toNat [])).getD 8 0:=aP 82 _ (by decide) (by decide)
 have a9:G 82 [L,i,9]=(aW ((Lc.dec L).getD i.toNat [])).getD 9 0:=aP 82 _ (by decide) (by decide)
 have a10:G 82 [L,i,10]=(aW ((Lc.dec L).getD i.toNat [])).getD 10 0:=aP 82 _ (by decide) (by decide)
 have a11:G 82 [L,i,11]=(aW ((Lc.dec L).getD i.toNat [])).getD 11 0:=aP 82 _ (by decide) (by decide)
 have a61:G 83 [L,i,61]=(aW ((Lc.dec L).getD i.toNat [])).getD 61 0:=aP 83 _ (by decide) (by decide)
 rw[a0,a1,a2,a3,a4,a5,a6,a7,a8,a9,a10,a11,a61]
 exact aPx L i [x1,x2,x3,x4,x5,x6,x7,x8,x9,x10,x11,x12,x13,x14,x15,x16,x17,x18,x19,x20,x21,x22,x23,x24,x25,x26,x27,x28,x29,x30,x31,x32,x33,x34,x35,x36,x37,x38,x39,x40,x41,x42,x43,x44,x45,x46,x47,x48,G 83 [L,0,60]] hi
def iN (x0 x1 x2 x3 x4 x5 x6 x7 x8 x9 x10 x11 x12 x13 x14 x15 x16 x17 x18 x19 x20 x21 x22 x23 x24 x25 x26 x27 x28 x29 x30 x31 x32 x33 x34 x35 x36 x37 x38 x39 x40 x41 x42 x43 x44 x45 x46 x47 x48 x49 L:Int) (i:Nat):Nat→Int:=fF ([x0,x1,x2,x3,x4,x5,x6,x7,x8,x9,x10,x11,x12,x13,x14,x15,x16,x17,x18,x19,x20,x21,x22,x23,x24,x25,x26,x27,x28,x29,x30,x31,x32,x33,x34,x35,x36,x37,x38,x39,x40,x41,x42,x43,x44,x45,x46,x47,x48,x49]++[(i:Int),L,G 44 [L,(i:Int),x1,x2,x3,x4,x5,x6,x7,x8,x9,x10,x11,x12,x13,x14,x15,x16,x17,x18,x19,x20,x21,x22,x23,x24,x25,x26,x27,x28,x29,x30,x31,x32,x33,x34,x35,x36,x37,x38,x39,x40,x41,x42,x43,x44,x45,x46,x47,x48,G 83 [L,0,60]]])
theorem aKB (x0 x1 x2 x3 x4 x5 x6 x7 x8 x9 x10 x11 x12 x13 x14 x15 x16 x17 x18 x19 x20 x21 x22 x23 x24 x25 x26 x27 x28 x29 x30 x31 x32 x33 x34 x35 x36 x37 x38 x39 x40 x41 x42 x43 x44 x45 x46 x47 x48 x49 L:Int) (b0:0≤x0∧x0≤30) (b1:(-9223372036854775808)≤x1∧x1≤9223372036854775807) (b2:0≤x2∧x2≤18446744073709551615) (b3:(-9223372036854775808)≤x3∧x3≤9223372036854775807) (b4:(-9223372036854775808)≤x4∧x4≤9223372036854775807) (b5:0≤x5∧x5≤18446744073709551615) (b6:(-9223372036854775808)≤x6∧x6≤9223372036854775807) (b7:(-9223372036854775808)≤x7∧x7≤9223372036854775807) (b8:0≤x8∧x8≤18446744073709551615) (b9:(-9223372036854775808)≤x9∧x9≤9223372036854775807) (b10:(-9223372036854775808)≤x10∧x10≤9223372036854775807) (b11:0≤x11∧x11≤18446744073709551615) (b12:(-9223372036854775808)≤x12∧x12≤9223372036854775807) (b13:(-9223372036854775808)≤x13∧x13≤9223372036854775807) (b14:0≤x14∧x14≤18446744073709551615) (b15:(-9223372036854775808)≤x15∧x15≤9223372036854775807) (b16:(-9223372036854775808)≤x16∧x16≤9223372036854775807) (b17:0≤x17∧x17≤18446744073709551615) (b18:(-9223372036854775808)≤x18∧x18≤9223372036854775807) (b19:(-9223372036854775808)≤x19∧x19≤9223372036854775807) (b20:0≤x20∧x20≤18446744073709551615) (b21:(-9223372036854775808)≤x21∧x21≤9223372036854775807) (b22:(-9223372036854775808)≤x22∧x22≤9223372036854775807) (b23:0≤x23∧x23≤18446744073709551615) (b24:(-9223372036854775808)≤x24∧x24≤9223372036854775807) (b25:(-9223372036854775808)≤x25∧x25≤9223372036854775807) (b26:0≤x26∧x26≤18446744073709551615) (b27:(-9223372036854775808)≤x27∧x27≤9223372036854775807) (b28:(-9223372036854775808)≤x28∧x28≤9223372036854775807) (b29:0≤x29∧x29≤18446744073709551615) (b30:(-9223372036854775808)≤x30∧x30≤9223372036854775807) (b31:(-9223372036854775808)≤x31∧x31≤9223372036854775807) (b32:0≤x32∧x32≤18446744073709551615) (b33:(-9223372036854775808)≤x33∧x33≤9223372036854775807) (b34:(-9223372036854775808)≤x34∧x34≤9223372036854775807) (b35:0≤x35∧x35≤18446744073709551615) (b36:(-9223372036854775808)≤x36∧x36≤9223372036854775807) (b37:(-9223372036854775808)≤x37∧x37≤9223372036854775807) (b38:0≤x38∧x38≤18446744073709551615) (b39:(-9223372036854775808)≤x39∧x39≤9223372036854775807) (b40:(-9223372036854775808)≤x40∧x40≤9223372036854775807) (b41:0≤x41∧x41≤18446744073709551615) (b42:(-9223372036854775808)≤x42∧x42≤9223372036854775807) (b43:(-9223372036854775808)≤x43∧x43≤9223372036854775807) (b44:0≤x44∧x44≤18446744073709551615) (b45:(-9223372036854775808)≤x45∧x45≤9223372036854775807) (b46:(-9223372036854775808)≤x46∧x46≤9223372036854775807) (b47:0≤x47∧x47≤18446744073709551615) (b48:(-9223372036854775808)≤x48∧x48≤9223372036854775807) (b49:0≤x49∧x49≤255) (i:Nat) (hi:(i:Int)≤x0):∀ k q,tT[k]?=some q→q.1≤iN x0 x1 x2 x3 x4 x5 x6 x7 x8 x9 x10 x11 x12 x13 x14 x15 x16 x17 x18 x19 x20 x21 x22 x23 x24 x25 x26 x27 x28 x29 x30 x31 x32 x33 x34 x35 x36 x37 x38 x39 x40 x41 x42 x43 x44 x45 x46 x47 x48 x49 L i k∧iN x0 x1 x2 x3 x4 x5 x6 x7 x8 x9 x10 x11 x12 x13 x14 x15 x16 x17 x18 x19 x20 x21 x22 x23 x24 x25 x26 x27 x28 x29 x30 x31 x32 x33 x34 x35 x36 x37 x38 x39 x40 x41 x42 x43 x44 x45 x46 x47 x48 x49 L i k≤q.2:=by
 unfold iN tT
 exact fM (xs:=[x0,x1,x2,x3,x4,x5,x6,x7,x8,x9,x10,x11,x12,x13,x14,x15,x16,x17,x18,x19,x20,x21,x22,x23,x24,x25,x26,x27,x28,x29,x30,x31,x32,x33,x34,x35,x36,x37,x38,x39,x40,x41,x42,x43,x44,x45,x46,x47,x48,x49,(i:Int)]) (by exact⟨b0,b1,b2,b3,b4,b5,b6,b7,b8,b9,b10,b11,b12,b13,b14,b15,b16,b17,b18,b19,b20,b21,b22,b23,b24,b25,b26,b27,b28,b29,b30,b31,b32,b33,b34,b35,b36,b37,b38,b39,b40,b41,b42,b43,b44,b45,b46,b47,b48,b49,by omega,trivial⟩)
set_option maxHeartbeats 2000000 in
set_option maxRecDepth 100000 in
theorem aMr (x0 x1 x2 x3 x4 x5 x6 x7 x8 x9 x10 x11 x12 x13 x14 x15 x16 x17 x18 x19 x20 x21 x22 x23 x24 x25 x26 x27 x28 x29 x30 x31 x32 x33 x34 x35 x36 x37 x38 x39 x40 x41 x42 x43 x44 x45 x46 x47 x48 x49 L:Int) (h30:x0≤30) (i:Nat) (hi:(i:Int)≤x0):Sx.Way (sK Try.prog) G (iN x0 x1 x2 x3 x4 x5 x6 x7 x8 x9 x10 x11 x12 x13 x14 x15 x16 x17 x18 x19 x20 x21 x22 x23 x24 x25 x26 x27 x28 x29 x30 x31 x32 x33 x34 x35 x36 x37 x38 x39 x40 x41 x42 x43 x44 x45 x46 x47 x48 x49 L i) (dK G (iN x0 x1 x2 x3 x4 x5 x6 x7 x8 x9 x10 x11 x12 x13 x14 x15 x16 x17 x18 x19 x20 x21 x22 x23 x24 x25 x26 x27 x28 x29 x30 x31 x32 x33 x34 x35 x36 x37 x38 x39 x40 x41 x42 x43 x44 x45 x46 x47 x48 x49 L) (fF ([x0,x1,x2,x3,x4,x5,x6,x7,x8,x9,x10,x11,x12,x13,x14,x15,x16,x17,x18,x19,x20,x21,x22,x23,x24,x25,x26,x27,x28,x29,x30,x31,x32,x33,x34,x35,x36,x37,x38,x39,x40,x41,x42,x43,x44,x45,x46,x47,x48,x49]++[L])) 50 (.lit true) (fun i=>(i:Int)≤x0) (fun i=>x0.toNat-i) i) []:=by
 refine aL lN (fun h0=>?_) (fun h0=>?_)
 ·skip
  refine aH aGt ?_
  unfold lN at h0;unfold zS;simp only[nn,iN,List.cons_append,List.nil_append,Bool.or_eq_true,aS,ne_eq]at h0;have q:=aOV L (i:Int) x1 x2 x3 x4 x5 x6 x7 x8 x9 x10 x11 x12 x13 x14 x15 x16 x17 x18 x19 x20 x21 x22 x23 x24 x25 x26 x27 x28 x29 x30 x31 x32 x33 x34 x35 x36 x37 x38 x39 x40 x41 x42 x43 x44 x45 x46 x47 x48 (by omega);have hm:x0.toNat-(i+1)<x0.toNat-i:=(by clear q;omega);have hg:((i+1:Nat):Int)≤x0:=(by clear q;omega);clear h0;simp only[dK];refine⟨i+1,hg,hm,eZ (by simp),?_⟩;simp only[aT];clear hm hg;simp only[nn,Int.natCast_add,Int.cast_ofNat_Int,Int.natCast_one,iN,List.cons_append,List.nil_append,Bool.or_eq_true,aS,ne_eq];(repeat' refine And.intro ?_ ?_)<;>first|with_reducible exact q|with_reducible rfl|with_reducible trivial
 refine aH aHJ ?_
 unfold lN at h0;unfold aAf;simp only[nn,iN,List.cons_append,List.nil_append,Bool.or_eq_true,aS,ne_eq]at h0;have e:(i:Int)=x0:=(by omega);clear h0;simp only[dK];refine⟨rfl,eZ (by simp),?_⟩;simp only[aT];simp only[nn,iN,List.cons_append,List.nil_append,Bool.or_eq_true,aS,ne_eq];rw[e];(repeat' refine And.intro ?_ ?_)<;>first|with_reducible rfl|with_reducible trivial
end Go.Proofs.Ytoiecphddchknaa
set_option maxRecDepth 100000
namespace Go.Proofs.Ytoiecphddchknaa
open Go Go.RowKit Sx Wi
def wD (P:Program) (fs:List B):Res SV:=tV P fs
def aAJ:List B:=[]
def bX:B:=(.cmp .lt (.var 0) (.lit 144))
def zI:List B:=aM bX++aAJ
def cA:B:=(.cmp .eq (.app 88 (.cons (.var 3) (.cons (.op .add (.op .mul (.op .quo (.var 0) (.lit 12)) (.lit 12)) (.op .rem (.var 0) (.lit 12))) (.cons (.lit 0) .nil)))) (.lit 0))
def aGG:List B:=aM cA++zI
def fC:B:=(.cmp .ne (.app 88 (.cons (.var 4) (.cons (.op .add (.op .mul (.op .quo (.var 0) (.lit 12)) (.lit 12)) (.op .rem (.var 0) (.lit 12))) (.cons (.lit 0) .nil)))) (.lit 0))
def aIb:List B:=aM (B.neg fC)++aGG
def cE:B:=(.cmp .ne (.app 83 (.cons (.var 3) (.cons (.op .add (.op .mul (.op .quo (.var 0) (.lit 12)) (.lit 12)) (.op .rem (.var 0) (.lit 12))) (.cons (.lit 1) .nil)))) (.app 83 (.cons (.var 4) (.cons (.op .add (.op .mul (.op .quo (.var 0) (.lit 12)) (.lit 12)) (.op .rem (.var 0) (.lit 12))) (.cons (.lit 1) .nil)))))
def aHq:List B:=aM (B.neg cE)++aIb
def cR:B:=(.cmp .ne (.app 82 (.cons (.var 3) (.cons (.op .add (.op .mul (.op .quo (.var 0) (.lit 12)) (.lit 12)) (.op .rem (.var 0) (.lit 12))) (.cons (.lit 2) .nil)))) (.app 82 (.cons (.var 4) (.cons (.op .add (.op .mul (.op .quo (.var 0) (.lit 12)) (.lit 12)) (.op .rem (.var 0) (.lit 12))) (.cons (.lit 2) .nil)))))
def aIf:List B:=aM (B.neg cR)++aHq
def dH:B:=(.cmp .ne (.app 82 (.cons (.var 3) (.cons (.op .add (.op .mul (.op .quo (.var 0) (.lit 12)) (.lit 12)) (.op .rem (.var 0) (.lit 12))) (.cons (.lit 3) .nil)))) (.app 82 (.cons (.var 4) (.cons (.op .add (.op .mul (.op .quo (.var 0) (.lit 12)) (.lit 12)) (.op .rem (.var 0) (.lit 12))) (.cons (.lit 3) .nil)))))
def aE6:List B:=aM (B.neg dH)++aIf
def dT:B:=(.cmp .ne (.app 82 (.cons (.var 3) (.cons (.op .add (.op .mul (.op .quo (.var 0) (.lit 12)) (.lit 12)) (.op .rem (.var 0) (.lit 12))) (.cons (.lit 4) .nil)))) (.app 82 (.cons (.var 4) (.cons (.op .add (.op .mul (.op .quo (.var 0) (.lit 12)) (.lit 12)) (.op .rem (.var 0) (.lit 12))) (.cons (.lit 4) .nil)))))
def aEX:List B:=aM (B.neg dT)++aE6
def eP:B:=(.cmp .ne (.app 82 (.cons (.var 3) (.cons (.op .add (.op .mul (.op .quo (.var 0) (.lit 12)) (.lit 12)) (.op .rem (.var 0) (.lit 12))) (.cons (.lit 5) .nil)))) (.app 82 (.cons (.var 4) (.cons (.op .add (.op .mul (.op .quo (.var 0) (.lit 12)) (.lit 12)) (.op .rem (.var 0) (.lit 12))) (.cons (.lit 5) .nil)))))
def aEl:List B:=aM (B.neg eP)++aEX
def fX:B:=(.cmp .ne (.app 82 (.cons (.var 3) (.cons (.op .add (.op .mul (.op .quo (.var 0) (.lit 12)) (.lit 12)) (.op .rem (.var 0) (.lit 12))) (.cons (.lit 6) .nil)))) (.app 82 (.cons (.var 4) (.cons (.op .add (.op .mul (.op .quo (.var 0) (.lit 12)) (.lit 12)) (.op .rem (.var 0) (.lit 12))) (.cons (.lit 6) .nil)))))
def aD2:List B:=aM (B.neg fX)++aEl
def iJ:B:=(.cmp .ne (.app 82 (.cons (.var 3) (.cons (.op .add (.op .mul (.op .quo (.var 0) (.lit 12)) (.lit 12)) (.op .rem (.var 0) (.lit 12))) (.cons (.lit 7) .nil)))) (.app 82 (.cons (.var 4) (.cons (.op .add (.op .mul (.op .quo (.var 0) (.lit 12)) (.lit 12)) (.op .rem (.var 0) (.lit 12))) (.cons (.lit 7) .nil)))))
def aEa:List B:=aM (B.neg iJ)++aD2
def aEY:List B:=aM (B.neg cA)++zI
def eJ:B:=(.cmp .eq (.app 88 (.cons (.var 4) (.cons (.op .add (.op .mul (.op .quo (.var 0) (.lit 12)) (.lit 12)) (.op .rem (.var 0) (.lit 12))) (.cons (.lit 0) .nil)))) (.lit 0))
def aDW:List B:=aM (B.neg eJ)++aEY
def aDJ:List B:=aM (B.neg cE)++aDW
def aEv:List B:=aM (B.neg cR)++aDJ
def aEi:List B:=aM (B.neg dH)++aEv
def aDA:List B:=aM (B.neg dT)++aEi
def aDT:List B:=aM (B.neg eP)++aDA
def aD0:List B:=aM (B.neg fX)++aDT
def aEs:List B:=aM (B.neg iJ)++aD0
def aEO:List B:=aM (B.neg bX)++aAJ
theorem aDY:wD Try.prog aEa = .ok (.agg [(.int .i64 (.op .add (.var 0) (.lit 1))),(.int .i64 (.var 0)),(.int .i64 (.var 3)),(.int .i64 (.var 3)),(.int .i64 (.var 4)),(.int .i64 (.var 4))]):=by kernel_rfl
theorem aDx:wD Try.prog aEs = .ok (.agg [(.int .i64 (.op .add (.var 0) (.lit 1))),(.int .i64 (.var 0)),(.int .i64 (.var 3)),(.int .i64 (.var 3)),(.int .i64 (.var 4)),(.int .i64 (.var 4))]):=by kernel_rfl
theorem aFf:wD Try.prog aEO = .ok (.tuple [(.agg []),(.bool (.lit true))]):=by kernel_rfl
end Go.Proofs.Ytoiecphddchknaa
namespace Go.Proofs.Ytoiecphddchknaa
open Go Go.RowKit Sx Wi
def cC (n b C D:Int) (i:Nat):Nat→Int:=fF [(i:Int),n,b,C,D]
theorem aIr (n b C D:Int) (hn:0≤n∧n≤30) (hb:0≤b∧b≤255) (i:Nat) (hi:i≤144):∀ k q,tY[k]?=some q→q.1≤cC n b C D i k∧cC n b C D i k≤q.2:=by
 unfold cC tY
 exact fM (xs:=[(i:Int),n,b]) (ls:=[C,D]) (by exact⟨by omega,hn,hb,trivial⟩)
def xY (C D:Int):Prop:=∀ k:Nat,k<144→(Lc.dec C).getD k []=(Lc.dec D).getD k []
theorem fA {C D i:Int} (h:xY C D) (hi:0≤i∧i<144):G 88 [C,Int.tdiv i 12*12+Int.tmod i 12,0]=G 88 [D,Int.tdiv i 12*12+Int.tmod i 12,0]∧G 83 [C,Int.tdiv i 12*12+Int.tmod i 12,1]=G 83 [D,Int.tdiv i 12*12+Int.tmod i 12,1]∧G 82 [C,Int.tdiv i 12*12+Int.tmod i 12,2]=G 82 [D,Int.tdiv i 12*12+Int.tmod i 12,2]∧G 82 [C,Int.tdiv i 12*12+Int.tmod i 12,3]=G 82 [D,Int.tdiv i 12*12+Int.tmod i 12,3]∧G 82 [C,Int.tdiv i 12*12+Int.tmod i 12,4]=G 82 [D,Int.tdiv i 12*12+Int.tmod i 12,4]∧G 82 [C,Int.tdiv i 12*12+Int.tmod i 12,5]=G 82 [D,Int.tdiv i 12*12+Int.tmod i 12,5]∧G 82 [C,Int.tdiv i 12*12+Int.tmod i 12,6]=G 82 [D,Int.tdiv i 12*12+Int.tmod i 12,6]∧G 82 [C,Int.tdiv i 12*12+Int.tmod i 12,7]=G 82 [D,Int.tdiv i 12*12+Int.tmod i 12,7]:=by
 have hq:Int.tdiv i 12=((i.toNat / 12:Nat):Int):=by rw[Int.tdiv_eq_ediv_of_nonneg hi.1];omega
 have hr:Int.tmod i 12=((i.toNat % 12:Nat):Int):=by rw[Int.tmod_eq_emod_of_nonneg hi.1];omega
 have hk:(Int.tdiv i 12*12+Int.tmod i 12).toNat=i.toNat:=by rw[hq,hr];omega
 have e:=h i.toNat (by omega)
 have rC0:G 88 [C,Int.tdiv i 12*12+Int.tmod i 12,0]=((Lc.dec C).getD (Int.tdiv i 12*12+Int.tmod i 12).toNat []).getD (0:Int).toNat 0:=aP 88 _ (by decide) (by decide)
 have rD0:G 88 [D,Int.tdiv i 12*12+Int.tmod i 12,0]=((Lc.dec D).getD (Int.tdiv i 12*12+Int.tmod i 12).toNat []).getD (0:Int).toNat 0:=aP 88 _ (by decide) (by decide)
 have rC1:G 83 [C,Int.tdiv i 12*12+Int.tmod i 12,1]=IntKind.i64.wrap (((Lc.dec C).getD (Int.tdiv i 12*12+Int.tmod i 12).toNat []).getD (1:Int).toNat 0):=aP 83 _ (by decide) (by decide)
 have rD1:G 83 [D,Int.tdiv i 12*12+Int.tmod i 12,1]=IntKind.i64.wrap (((Lc.dec D).getD (Int.tdiv i 12*12+Int.tmod i 12).toNat []).getD (1:Int).toNat 0):=aP 83 _ (by decide) (by decide)
 have rC2:G 82 [C,Int.tdiv i 12*12+Int.tmod i 12,2]=IntKind.i32.wrap (((Lc.dec C).getD (Int.tdiv i 12*12+Int.tmod i 12).toNat []).getD (2:Int).toNat 0):=aP 82 _ (by decide) (by decide)
 have rD2:G 82 [D,Int.tdiv i 12*12+Int.tmod i 12,2]=IntKind.i32.wrap (((Lc.dec D).getD (Int.tdiv i 12*12+Int.tmod i 12).toNat []).getD (2:Int).toNat 0):=aP 82 _ (by decide) (by decide)
 have rC3:G 82 [C,Int.tdiv i 12*12+Int.tmod i 12,3]=IntKind.i32.wrap (((Lc.dec C).getD (Int.tdiv i 12*12+Int.tmod i 12).toNat []).getD (3:Int).toNat 0):=aP 82 _ (by decide) (by decide)
 have rD3:G 82 [D,Int.tdiv i 12*12+Int.tmod i 12,3]=IntKind.i32.wrap (((Lc.dec D).getD (Int.tdiv i 12*12+Int.tmod i 12).toNat []).getD (3:Int).toNat 0):=aP 82 _ (by decide) (by decide)
 have rC4:G 82 [C,Int.tdiv i 12*12+Int.tmod i 12,4]=IntKind.i32.wrap (((Lc.dec C).getD (Int.tdiv i 12*12+Int.tmod i 12).toNat []).getD (4:Int).toNat 0):=aP 82 _ (by decide) (by decide)
 have rD4:G 82 [D,Int.tdiv i 12*12+Int.tmod i 12,4]=IntKind.i32.wrap (((Lc.dec D).getD (Int.tdiv i 12*12+Int.tmod i 12).toNat []).getD (4:Int).toNat 0):=aP 82 _ (by decide) (by decide)
 have rC5:G 82 [C,Int.tdiv i 12*12+Int.tmod i 12,5]=IntKind.i32.wrap (((Lc.dec C).getD (Int.tdiv i 12*12+Int.tmod i 12).toNat []).getD (5:Int).toNat 0):=aP 82 _ (by decide) (by decide)
 have rD5:G 82 [D,Int.tdiv i 12*12+Int.tmod i 12,5]=IntKind.i32.wrap (((Lc.dec D).getD (Int.tdiv i 12*12+Int.tmod i 12).toNat []).getD (5:Int).toNat 0):=aP 82 _ (by decide) (by decide)
 have rC6:G 82 [C,Int.tdiv i 12*12+Int.tmod i 12,6]=IntKind.i32.wrap (((Lc.dec C).getD (Int.tdiv i 12*12+Int.tmod i 12).toNat []).getD (6:Int).toNat 0):=aP 82 _ (by decide) (by decide)
 have rD6:G 82 [D,Int.tdiv i 12*12+Int.tmod i 12,6]=IntKind.i32.wrap (((Lc.dec D).getD (Int.tdiv i 12*12+Int.tmod i 12).toNat []).getD (6:Int).toNat 0):=aP 82 _ (by decide) (by decide)
 have rC7:G 82 [C,Int.tdiv i 12*12+Int.tmod i 12,7]=IntKind.i32.wrap (((Lc.dec C).getD (Int.tdiv i 12*12+Int.tmod i 12).toNat []).getD (7:Int).toNat 0):=aP 82 _ (by decide) (by decide)
 have rD7:G 82 [D,Int.tdiv i 12*12+Int.tmod i 12,7]=IntKind.i32.wrap (((Lc.dec D).getD (Int.tdiv i 12*12+Int.tmod i 12).toNat []).getD (7:Int).toNat 0):=aP 82 _ (by decide) (by decide)
 rw[hk,e]at rC0 rC1 rC2 rC3 rC4 rC5 rC6 rC7
 rw[hk]at rD0 rD1 rD2 rD3 rD4 rD5 rD6 rD7
 exact⟨rC0.trans rD0.symm,rC1.trans rD1.symm,rC2.trans rD2.symm,rC3.trans rD3.symm,rC4.trans rD4.symm,rC5.trans rD5.symm,rC6.trans rD6.symm,rC7.trans rD7.symm⟩
set_option maxHeartbeats 2000000 in
set_option maxRecDepth 100000 in
theorem aMh (n b C D:Int) (hC:xY C D) (ρT:Nat→Int) (i:Nat) (hi:i≤144):Sx.Way (tV Try.prog) G (cC n b C D i) (dK G (cC n b C D) ρT 0 (.lit true) (fun i=>i≤144) (fun i=>144-i) i) []:=by
 refine aL bX (fun h0=>?_) (fun h0=>?_)
 rotate_left
 ·skip
  refine aH aFf ?_
  unfold bX at h0;simp only[dK];exact⟨rfl,fun i hi=>by omega,by simp only[aT]⟩
 refine aL cA (fun h1=>?_) (fun h1=>?_)
 ·skip
  refine aL fC (fun h2=>?_) (fun h2=>?_)
  ·skip
   refine bE ?_
   unfold bX at h0;unfold cA at h1;unfold fC at h2;simp only[nn,cC,List.cons_append,List.nil_append,Bool.or_eq_true,aS,ne_eq]at h0 h1 h2;have q:=fA hC ⟨by omega,h0⟩;rcases q with⟨q0,q1,q2,q3,q4,q5,q6,q7⟩;first|with_reducible exact absurd q1 h2|with_reducible exact absurd q2 h2|with_reducible exact absurd q3 h2|with_reducible exact absurd q4 h2|with_reducible exact absurd q5 h2|with_reducible exact absurd q6 h2|with_reducible exact absurd q7 h2|(rw[q0]at h1;first|with_reducible exact absurd h1 h2|with_reducible exact absurd h2 h1|exact absurd (Classical.not_not.1 h1) h2|exact absurd (Classical.not_not.1 h2) h1)
  refine aL cE (fun h3=>?_) (fun h3=>?_)
  ·skip
   refine bE ?_
   unfold bX at h0;unfold cA at h1;unfold fC at h2;unfold cE at h3;simp only[nn,cC,List.cons_append,List.nil_append,Bool.or_eq_true,aS,ne_eq]at h0 h1 h2 h3;have q:=fA hC ⟨by omega,h0⟩;rcases q with⟨q0,q1,q2,q3,q4,q5,q6,q7⟩;first|with_reducible exact absurd q1 h3|with_reducible exact absurd q2 h3|with_reducible exact absurd q3 h3|with_reducible exact absurd q4 h3|with_reducible exact absurd q5 h3|with_reducible exact absurd q6 h3|with_reducible exact absurd q7 h3|(rw[q0]at h1;first|with_reducible exact absurd h1 h2|with_reducible exact absurd h2 h1|exact absurd (Classical.not_not.1 h1) h2|exact absurd (Classical.not_not.1 h2) h1)
  refine aL cR (fun h4=>?_) (fun h4=>?_)
  ·skip
   refine bE ?_
   unfold bX at h0;unfold cA at h1;unfold fC at h2;unfold cE at h3;unfold cR at h4;simp only[nn,cC,List.cons_append,List.nil_append,Bool.or_eq_true,aS,ne_eq]at h0 h1 h2 h3 h4;have q:=fA hC ⟨by omega,h0⟩;rcases q with⟨q0,q1,q2,q3,q4,q5,q6,q7⟩;first|with_reducible exact absurd q1 h4|with_reducible exact absurd q2 h4|with_reducible exact absurd q3 h4|with_reducible exact absurd q4 h4|with_reducible exact absurd q5 h4|with_reducible exact absurd q6 h4|with_reducible exact absurd q7 h4|(rw[q0]at h1;first|with_reducible exact absurd h1 h2|with_reducible exact absurd h2 h1|exact absurd (Classical.not_not.1 h1) h2|exact absurd (Classical.not_not.1 h2) h1)
  refine aL dH (fun h5=>?_) (fun h5=>?_)
  ·skip
   refine bE ?_
   unfold bX at h0;unfold cA at h1;unfold fC at h2;unfold cE at h3;unfold cR at h4;unfold dH at h5;simp only[nn,cC,List.cons_append,List.nil_append,Bool.or_eq_true,aS,ne_eq]at h0 h1 h2 h3 h4 h5;have q:=fA hC ⟨by omega,h0⟩;rcases q with⟨q0,q1,q2,q3,q4,q5,q6,q7⟩;first|with_reducible exact absurd q1 h5|with_reducible exact absurd q2 h5|with_reducible exact absurd q3 h5|with_reducible exact absurd q4 h5|with_reducible exact absurd q5 h5|with_reducible exact absurd q6 h5|with_reducible exact absurd q7 h5|(rw[q0]at h1;first|with_reducible exact absurd h1 h2|with_reducible exact absurd h2 h1|exact absurd (Classical.not_not.1 h1) h2|exact absurd (Classical.not_not.1 h2) h1)
  refine aL dT (fun h6=>?_) (fun h6=>?_)
  ·skip
   refine bE ?_
   unfold bX at h0;unfold cA at h1;unfold fC at h2;unfold cE at h3;unfold cR at h4;unfold dH at h5;unfold dT at h6;simp only[nn,cC,List.cons_append,List.nil_append,Bool.or_eq_true,aS,ne_eq]at h0 h1 h2 h3 h4 h5 h6;have q:=fA hC ⟨by omega,h0⟩;rcases q with⟨q0,q1,q2,q3,q4,q5,q6,q7⟩;first|with_reducible exact absurd q1 h6|with_reducible exact absurd q2 h6|with_reducible exact absurd q3 h6|with_reducible exact absurd q4 h6|with_reducible exact absurd q5 h6|with_reducible exact absurd q6 h6|with_reducible exact absurd q7 h6|(rw[q0]at h1;first|with_reducible exact absurd h1 h2|with_reducible exact absurd h2 h1|exact absurd (Classical.not_not.1 h1) h2|exact absurd (Classical.not_not.1 h2) h1)
  refine aL eP (fun h7=>?_) (fun h7=>?_)
  ·skip
   refine bE ?_
   unfold bX at h0;unfold cA at h1;unfold fC at h2;unfold cE at h3;unfold cR at h4;unfold dH at h5;unfold dT at h6;unfold eP at h7;simp only[nn,cC,List.cons_append,List.nil_append,Bool.or_eq_true,aS,ne_eq]at h0 h1 h2 h3 h4 h5 h6 h7;have q:=fA hC ⟨by omega,h0⟩;rcases q with⟨q0,q1,q2,q3,q4,q5,q6,q7⟩;first|with_reducible exact absurd q1 h7|with_reducible exact absurd q2 h7|with_reducible exact absurd q3 h7|with_reducible exact absurd q4 h7|with_reducible exact absurd q5 h7|with_reducible exact absurd q6 h7|with_reducible exact absurd q7 h7|(rw[q0]at h1;first|with_reducible exact absurd h1 h2|with_reducible exact absurd h2 h1|exact absurd (Classical.not_not.1 h1) h2|exact absurd (Classical.not_not.1 h2) h1)
  refine aL fX (fun h8=>?_) (fun h8=>?_)
  ·skip
   refine bE ?_
   unfold bX at h0;unfold cA at h1;unfold fC at h2;unfold cE at h3;unfold cR at h4;unfold dH at h5;unfold dT at h6;unfold eP at h7;unfold fX at h8;simp only[nn,cC,List.cons_append,List.nil_append,Bool.or_eq_true,aS,ne_eq]at h0 h1 h2 h3 h4 h5 h6 h7 h8;have q:=fA hC ⟨by omega,h0⟩;rcases q with⟨q0,q1,q2,q3,q4,q5,q6,q7⟩;first|with_reducible exact absurd q1 h8|with_reducible exact absurd q2 h8|with_reducible exact absurd q3 h8|with_reducible exact absurd q4 h8|with_reducible exact absurd q5 h8|with_reducible exact absurd q6 h8|with_reducible exact absurd q7 h8|(rw[q0]at h1;first|with_reducible exact absurd h1 h2|with_reducible exact absurd h2 h1|exact absurd (Classical.not_not.1 h1) h2|exact absurd (Classical.not_not.1 h2) h1)
  refine aL iJ (fun h9=>?_) (fun h9=>?_)
  ·skip
   refine bE ?_
   unfold bX at h0;unfold cA at h1;unfold fC at h2;unfold cE at h3;unfold cR at h4;unfold dH at h5;unfold dT at h6;unfold eP at h7;unfold fX at h8;unfold iJ at h9;simp only[nn,cC,List.cons_append,List.nil_append,Bool.or_eq_true,aS,ne_eq]at h0 h1 h2 h3 h4 h5 h6 h7 h8 h9;have q:=fA hC ⟨by omega,h0⟩;rcases q with⟨q0,q1,q2,q3,q4,q5,q6,q7⟩;first|with_reducible exact absurd q1 h9|with_reducible exact absurd q2 h9|with_reducible exact absurd q3 h9|with_reducible exact absurd q4 h9|with_reducible exact absurd q5 h9|with_reducible exact absurd q6 h9|with_reducible exact absurd q7 h9|(rw[q0]at h1;first|with_reducible exact absurd h1 h2|with_reducible exact absurd h2 h1|exact absurd (Classical.not_not.1 h1) h2|exact absurd (Classical.not_not.1 h2) h1)
  refine aH aDY ?_
  unfold bX at h0;unfold cA at h1;unfold fC at h2;unfold cE at h3;unfold cR at h4;unfold dH at h5;unfold dT at h6;unfold eP at h7;unfold fX at h8;unfold iJ at h9;clear h1 h2 h3 h4 h5 h6 h7 h8 h9;simp only[nn,cC,List.cons_append,List.nil_append,Bool.or_eq_true,aS,ne_eq]at h0;simp only[dK];refine⟨i+1,by omega,by omega,fun i hi=>by omega,?_⟩;clear h0;simp only[aT];simp only[nn,cC,List.cons_append,List.nil_append,Bool.or_eq_true,aS,ne_eq];(repeat' refine And.intro ?_ ?_)<;>first|omega|with_reducible trivial
 refine aL eJ (fun h2=>?_) (fun h2=>?_)
 ·skip
  refine bE ?_
  unfold bX at h0;unfold cA at h1;unfold eJ at h2;simp only[nn,cC,List.cons_append,List.nil_append,Bool.or_eq_true,aS,ne_eq]at h0 h1 h2;have q:=fA hC ⟨by omega,h0⟩;rcases q with⟨q0,q1,q2,q3,q4,q5,q6,q7⟩;first|with_reducible exact absurd q1 h2|with_reducible exact absurd q2 h2|with_reducible exact absurd q3 h2|with_reducible exact absurd q4 h2|with_reducible exact absurd q5 h2|with_reducible exact absurd q6 h2|with_reducible exact absurd q7 h2|(rw[q0]at h1;first|with_reducible exact absurd h1 h2|with_reducible exact absurd h2 h1|exact absurd (Classical.not_not.1 h1) h2|exact absurd (Classical.not_not.1 h2) h1)
 refine aL cE (fun h3=>?_) (fun h3=>?_)
 ·skip
  refine bE ?_
  unfold bX at h0;unfold cA at h1;unfold eJ at h2;unfold cE at h3;simp only[nn,cC,List.cons_append,List.nil_append,Bool.or_eq_true,aS,ne_eq]at h0 h1 h2 h3;have q:=fA hC ⟨by omega,h0⟩;rcases q with⟨q0,q1,q2,q3,q4,q5,q6,q7⟩;first|with_reducible exact absurd q1 h3|with_reducible exact absurd q2 h3|with_reducible exact absurd q3 h3|with_reducible exact absurd q4 h3|with_reducible exact absurd q5 h3|with_reducible exact absurd q6 h3|with_reducible exact absurd q7 h3|(rw[q0]at h1;first|with_reducible exact absurd h1 h2|with_reducible exact absurd h2 h1|exact absurd (Classical.not_not.1 h1) h2|exact absurd (Classical.not_not.1 h2) h1)
 refine aL cR (fun h4=>?_) (fun h4=>?_)
 ·skip
  refine bE ?_
  unfold bX at h0;unfold cA at h1;unfold eJ at h2;unfold cE at h3;unfold cR at h4;simp only[nn,cC,List.cons_append,List.nil_append,Bool.or_eq_true,aS,ne_eq]at h0 h1 h2 h3 h4;have q:=fA hC ⟨by omega,h0⟩;rcases q with⟨q0,q1,q2,q3,q4,q5,q6,q7⟩;first|with_reducible exact absurd q1 h4|with_reducible exact absurd q2 h4|with_reducible exact absurd q3 h4|with_reducible exact absurd q4 h4|with_reducible exact absurd q5 h4|with_reducible exact absurd q6 h4|with_reducible exact absurd q7 h4|(rw[q0]at h1;first|with_reducible exact absurd h1 h2|with_reducible exact absurd h2 h1|exact absurd (Classical.not_not.1 h1) h2|exact absurd (Classical.not_not.1 h2) h1)
 refine aL dH (fun h5=>?_) (fun h5=>?_)
 ·skip
  refine bE ?_
  unfold bX at h0;unfold cA at h1;unfold eJ at h2;unfold cE at h3;unfold cR at h4;unfold dH at h5;simp only[nn,cC,List.cons_append,List.nil_append,Bool.or_eq_true,aS,ne_eq]at h0 h1 h2 h3 h4 h5;have q:=fA hC ⟨by omega,h0⟩;rcases q with⟨q0,q1,q2,q3,q4,q5,q6,q7⟩;first|with_reducible exact absurd q1 h5|with_reducible exact absurd q2 h5|with_reducible exact absurd q3 h5|with_reducible exact absurd q4 h5|with_reducible exact absurd q5 h5|with_reducible exact absurd q6 h5|with_reducible exact absurd q7 h5|(rw[q0]at h1;first|with_reducible exact absurd h1 h2|with_reducible exact absurd h2 h1|exact absurd (Classical.not_not.1 h1) h2|exact absurd (Classical.not_not.1 h2) h1)
 refine aL dT (fun h6=>?_) (fun h6=>?_)
 ·skip
  refine bE ?_
  unfold bX at h0;unfold cA at h1;unfold eJ at h2;unfold cE at h3;unfold cR at h4;unfold dH at h5;unfold dT at h6;simp only[nn,cC,List.cons_append,List.nil_append,Bool.or_eq_true,aS,ne_eq]at h0 h1 h2 h3 h4 h5 h6;have q:=fA hC ⟨by omega,h0⟩;rcases q with⟨q0,q1,q2,q3,q4,q5,q6,q7⟩;first|with_reducible exact absurd q1 h6|with_reducible exact absurd q2 h6|with_reducible exact absurd q3 h6|with_reducible exact absurd q4 h6|with_reducible exact absurd q5 h6|with_reducible exact absurd q6 h6|with_reducible exact absurd q7 h6|(rw[q0]at h1;first|with_reducible exact absurd h1 h2|with_reducible exact absurd h2 h1|exact absurd (Classical.not_not.1 h1) h2|exact absurd (Classical.not_not.1 h2) h1)
 refine aL eP (fun h7=>?_) (fun h7=>?_)
 ·skip
  refine bE ?_
  unfold bX at h0;unfold cA at h1;unfold eJ at h2;unfold cE at h3;unfold cR at h4;unfold dH at h5;unfold dT at h6;unfold eP at h7;simp only[nn,cC,List.cons_append,List.nil_append,Bool.or_eq_true,aS,ne_eq]at h0 h1 h2 h3 h4 h5 h6 h7;have q:=fA hC ⟨by omega,h0⟩;rcases q with⟨q0,q1,q2,q3,q4,q5,q6,q7⟩;first|with_reducible exact absurd q1 h7|with_reducible exact absurd q2 h7|with_reducible exact absurd q3 h7|with_reducible exact absurd q4 h7|with_reducible exact absurd q5 h7|with_reducible exact absurd q6 h7|with_reducible exact absurd q7 h7|(rw[q0]at h1;first|with_reducible exact absurd h1 h2|with_reducible exact absurd h2 h1|exact absurd (Classical.not_not.1 h1) h2|exact absurd (Classical.not_not.1 h2) h1)
 refine aL fX (fun h8=>?_) (fun h8=>?_)
 ·skip
  refine bE ?_
  unfold bX at h0;unfold cA at h1;unfold eJ at h2;unfold cE at h3;unfold cR at h4;unfold dH at h5;unfold dT at h6;unfold eP at h7;unfold fX at h8;simp only[nn,cC,List.cons_append,List.nil_append,Bool.or_eq_true,aS,ne_eq]at h0 h1 h2 h3 h4 h5 h6 h7 h8;have q:=fA hC ⟨by omega,h0⟩;rcases q with⟨q0,q1,q2,q3,q4,q5,q6,q7⟩;first|with_reducible exact absurd q1 h8|with_reducible exact absurd q2 h8|with_reducible exact absurd q3 h8|with_reducible exact absurd q4 h8|with_reducible exact absurd q5 h8|with_reducible exact absurd q6 h8|with_reducible exact absurd q7 h8|(rw[q0]at h1;first|with_reducible exact absurd h1 h2|with_reducible exact absurd h2 h1|exact absurd (Classical.not_not.1 h1) h2|exact absurd (Classical.not_not.1 h2) h1)
 refine aL iJ (fun h9=>?_) (fun h9=>?_)
 ·skip
  refine bE ?_
  unfold bX at h0;unfold cA at h1;unfold eJ at h2;unfold cE at h3;unfold cR at h4;unfold dH at h5;unfold dT at h6;unfold eP at h7;unfold fX at h8;unfold iJ at h9;simp only[nn,cC,List.cons_append,List.nil_append,Bool.or_eq_true,aS,ne_eq]at h0 h1 h2 h3 h4 h5 h6 h7 h8 h9;have q:=fA hC ⟨by omega,h0⟩;rcases q with⟨q0,q1,q2,q3,q4,q5,q6,q7⟩;first|with_reducible exact absurd q1 h9|with_reducible exact absurd q2 h9|with_reducible exact absurd q3 h9|with_reducible exact absurd q4 h9|with_reducible exact absurd q5 h9|with_reducible exact absurd q6 h9|with_reducible exact absurd q7 h9|(rw[q0]at h1;first|with_reducible exact absurd h1 h2|with_reducible exact absurd h2 h1|exact absurd (Classical.not_not.1 h1) h2|exact absurd (Classical.not_not.1 h2) h1)
 refine aH aDx ?_
 unfold bX at h0;unfold cA at h1;unfold eJ at h2;unfold cE at h3;unfold cR at h4;unfold dH at h5;unfold dT at h6;unfold eP at h7;unfold fX at h8;unfold iJ at h9;clear h1 h2 h3 h4 h5 h6 h7 h8 h9;simp only[nn,cC,List.cons_append,List.nil_append,Bool.or_eq_true,aS,ne_eq]at h0;simp only[dK];refine⟨i+1,by omega,by omega,fun i hi=>by omega,?_⟩;clear h0;simp only[aT];simp only[nn,cC,List.cons_append,List.nil_append,Bool.or_eq_true,aS,ne_eq];(repeat' refine And.intro ?_ ?_)<;>first|omega|with_reducible trivial
theorem aFn (r:List Int):pA (aW r):=by
 have h:=iO .i64 (r.getD 61 0)
 exact⟨rfl,h.1,h.2⟩
theorem aGI {r s:List Int} {k:Nat} (h1:12≤k) (h2:k<61) (h:r.getD k 0=s.getD k 0):(aW r).getD k 0=(aW s).getD k 0:=by
 rcases(by omega:k=12∨k=13∨k=14∨k=15∨k=16∨k=17∨k=18∨k=19∨k=20∨k=21∨k=22∨k=23∨k=24∨k=25∨k=26∨k=27∨k=28∨k=29∨k=30∨k=31∨k=32∨k=33∨k=34∨k=35∨k=36∨k=37∨k=38∨k=39∨k=40∨k=41∨k=42∨k=43∨k=44∨k=45∨k=46∨k=47∨k=48∨k=49∨k=50∨k=51∨k=52∨k=53∨k=54∨k=55∨k=56∨k=57∨k=58∨k=59∨k=60)with rfl|rfl|rfl|rfl|rfl|rfl|rfl|rfl|rfl|rfl|rfl|rfl|rfl|rfl|rfl|rfl|rfl|rfl|rfl|rfl|rfl|rfl|rfl|rfl|rfl|rfl|rfl|rfl|rfl|rfl|rfl|rfl|rfl|rfl|rfl|rfl|rfl|rfl|rfl|rfl|rfl|rfl|rfl|rfl|rfl|rfl|rfl|rfl|rfl<;>(unfold aW;simp only[List.getD_cons_zero,List.getD_cons_succ];rw[h])
theorem zX (r cs:List Int) (hc:cs.length=49) {k:Nat} (h1:12≤k) (h2:k<61):(aBb r cs).getD k 0=cs.getD (k-12) 0:=by
 have hl:((aW r).take 12).length=12:=rfl
 unfold aBb
 rw[List.getD_eq_getElem?_getD,List.append_assoc,List.getElem?_append_right (by omega),hl,List.getElem?_append_left (by omega),←List.getD_eq_getElem?_getD]
theorem aEF (X:List (List Int)) (h:X.length≤60):(lP X).take X.length=X.map aW:=by
 apply List.ext_getElem
 ·unfold lP;rw[List.length_take,List.length_map,List.length_map,List.length_range];omega
 ·intro i h1 h2
  rw[List.length_map]at h2
  rw[List.getElem_take]
  unfold lP
  rw[List.getElem_map,List.getElem_range,List.getElem_map,List.getD_eq_getElem?_getD,List.getElem?_eq_getElem h2]
  rfl
theorem aCC:(Lc.dec (wG 96 [144,0,0,0,0,0,0,0,0])).length=144∧∀ k,k<144→(Lc.dec (wG 96 [144,0,0,0,0,0,0,0,0])).getD k []=[0,0,0,0,0,0,0,0]:=by
 have e0:wG 96 [144,0,0,0,0,0,0,0,0]=Lc.enc (List.replicate 144 [0,0,0,0,0,0,0,0]):=pO 96 _ (by decide) (by decide)
 rw[e0,Lc.dec_enc]
 exact⟨List.length_replicate,fun k hk=>by rw[List.getD_eq_getElem?_getD,List.getElem?_replicate,if_pos hk];rfl⟩
theorem yV (C n:Int) (hn:n=((Lc.dec C).length:Int)) (h60:n≤60) (k:Nat) (hk:k<144):aDv ((Lc.dec C).map aW) ((k / 12:Nat):Int) ((k % 12:Nat):Int) ((Lc.dec (G 43 [C,n])).getD k []):=by
 have hl:(lP (Lc.dec C)).length=60:=by unfold lP;rw[List.length_map,List.length_range]
 have hp:=xH (lP (Lc.dec C)) (wG 96 [144,0,0,0,0,0,0,0,0]) (fun r h=>by unfold lP at h;obtain⟨i,_,rfl⟩:=List.mem_map.1 h;exact aFn _) aCC.1 aCC.2 (Lc.dec C).length (by omega)
 have e:G 43 [C,n]=dS (lP (Lc.dec C)) 12 12 (wG 96 [144,0,0,0,0,0,0,0,0]) (Lc.dec C).length:=by
  show dS _ 12 12 _ n.toNat=_
  rw[hn,Int.toNat_natCast]
 rw[e,←aEF _ (by omega)]
 exact hp.2 k hk
theorem aCz (L b n:Int) (cs:List Int) (hc:cs.length=49) (hn:0≤n∧n≤30) (hb:0≤b∧b≤n) (k:Nat) (hk:k<144):
  (Lc.dec (G 43 [G 44 (L::n::cs),n])).getD k []=(Lc.dec (G 43 [G 94 [G 94 [0,G 95 [G 44 (L::n::cs),b,n-b]],G 95 [G 44 (L::n::cs),0,b]],n-b+b])).getD k []:=by
 have eM:Lc.dec (G 44 (L::n::cs))=(List.range n.toNat).map fun i=>aBb ((Lc.dec L).getD i []) cs:=by
  show Lc.dec (Lc.enc _)=_
  rw[Lc.dec_enc]
 generalize G 44 (L::n::cs)=M at *
 have lM:(Lc.dec M).length=n.toNat:=by rw[eM,List.length_map,List.length_range]
 have e1:∀ o m:Int,G 95 [M,o,m]=Lc.enc (((Lc.dec M).drop o.toNat).take m.toNat):=fun o m=>aP 95 _ (by decide) (by decide)
 have e2:∀ x y:Int,G 94 [x,y]=Lc.enc (Lc.dec x++Lc.dec y):=fun x y=>aP 94 _ (by decide) (by decide)
 have e3:Lc.dec 0=[]:=rfl
 rw[e2,e2,e1,e1,Lc.dec_enc,Lc.dec_enc,Lc.dec_enc,e3,List.nil_append]
 have d0:((Lc.dec M).drop (0:Int).toNat).take b.toNat=(Lc.dec M).take b.toNat:=rfl
 have d1:((Lc.dec M).drop b.toNat).take (n-b).toNat=(Lc.dec M).drop b.toNat:=List.take_of_length_le (by rw[List.length_drop,lM];omega)
 rw[d0,d1]
 have g1:=yV M n (by rw[lM];omega) (by omega) k hk
 have g2:=yV (Lc.enc ((Lc.dec M).drop b.toNat++(Lc.dec M).take b.toNat)) (n-b+b) (by rw[Lc.dec_enc,List.length_append,List.length_drop,List.length_take,lM];omega) (by omega) k hk
 rw[Lc.dec_enc]at g2
 refine aG8 (fun r h=>by obtain⟨x,_,rfl⟩:=List.mem_map.1 h;exact aFn _) (fun r=>?_) ?_ g1 g2
 ·rw[List.map_append,List.mem_append,or_comm,←List.mem_append,←List.map_append,List.take_append_drop]
 ·intro r h r' h' j j1 j2
  obtain⟨x,hx,rfl⟩:=List.mem_map.1 h
  obtain⟨y,hy,rfl⟩:=List.mem_map.1 h'
  rw[eM]at hx hy
  obtain⟨p,_,rfl⟩:=List.mem_map.1 hx
  obtain⟨q,_,rfl⟩:=List.mem_map.1 hy
  exact aGI j1 j2 (by rw[zX _ _ hc j1 j2,zX _ _ hc j1 j2])
end Go.Proofs.Ytoiecphddchknaa
