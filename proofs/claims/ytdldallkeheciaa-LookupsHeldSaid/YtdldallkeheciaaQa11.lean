/- What is proved: the law LookupsHeld: the outputs' states. No condition but the numbers' own bounds. -/
import Derived.Test.YtdldallkeheciaaQa10
set_option linter.unusedSimpArgs false
set_option linter.unusedVariables false
namespace Go.Proofs.Ytdldallkeheciaa
open Go Go.RowKit Sx Wi Lk
def aWR:St:=⟨[.any,.any,(.ptr 11 0),.any,.any,.any,.any,(.own 13 (.var 2) (some (.var 2))),.any,(.own 14 (.var 2) (some (.var 2))),.any,(.int .i64 (.var 15)),.any,.any,.any,.any,.any,.any,.any,.any,.any,.any,.any,.any,.any,.any,.any,.any,.any,.any,.any,.any,.any,.any,.any,.any,.any,.any,.any,.any,.any,.any,.any,.any,.any,.any,.any,.any,.any,.any,.any,.any,.any,.any,.any,.any,.any,.any,.any,.any,.any,.any,.any,.any,.any,.any,.any,.any,.any,.any,.any,.any,.any,.any,.any,.any,.any,.any,.any,.any,.any,.any,.any,.any,.any,.any,.any,.any,.any,.any,.any,.any,.any,.any,.any,.any,.any,.any,.any,.any,.any,.any,.any,.any,.any,.any,.any,.any,.any,.any,.any,.any,.any,.any,.any,.any,.any,.any,.any,.any,.any,.any],[some ([.vec [.int .i32,.int .i32] (.var 16) (.var 1) true],aF),some ([.vec [.int .i32,.int .i32] (.var 17) (.var 2) true],aF),some ([.vec [.int .i64] (.var 18) (.var 3) true],aF),some ([.vec [.int .i32,.int .i32] (.var 19) (.var 5) true],aF),some ([.vec [.int .i32,.int .i32] (.var 20) (.var 6) true],aF),some ([.vec [.int .u8] (.var 21) (.var 7) true],aF),some ([.vec [.int .i64] (.lit 0) (.lit 0) true],aF),some ([.vec [.int .i64] (.lit 0) (.lit 0) true],aF),some ([.vec [.int .i64] (.lit 0) (.lit 0) true],aF),some ([.vec [.int .i64] (.lit 0) (.lit 0) true],aF),some ([.vec [.int .i32] (.var 22) (.var 14) true],aF),some ([(.int .u8 (.var 0)),(.own 0 (.var 1) none),(.own 1 (.var 2) none),(.own 2 (.var 3) none),(.int .i64 (.var 4)),(.own 3 (.var 5) none),(.own 4 (.var 6) none),(.own 5 (.var 7) none),(.own 6 (.var 8) none),(.own 7 (.var 9) none),(.int .i32 (.var 10)),(.own 8 (.var 11) none),(.own 9 (.var 12) none),(.text (.var 13))],30),some ([.vec [.int .i32] (.var 23) (.var 14) false],aU+27),some ([.vec [.int .i32] (.var 24) (.var 2) true],aU+27),some ([.vec [.int .i32] (.var 25) (.var 2) true],aU+27)]⟩
def aVO:St:=⟨[.any,.any,.any,.any,.any,.any,.any,.any,.any,.any,.any,.any,.any,.any,.any,.any,.any,.any,.any,.any,.any,.any,.any,.any,.any,.any,.any,.any,.any,.any,.any,.any,.any,.any,.any,.any,.any,.any,.any,.any,.any,.any,.any,.any,.any,.any,.any,.any,.any,.any,.any,.any,.any,.any,.any,.any,.any,.any,.any,.any,.any,.any,.any,.any,.any,.any,.any,.any,.any,.any,.any,.any,.any,.any,.any,.any,.any,.any,.any,.any,.any,.any,.any,.any,.any,.any,.any,.any,.any,.any,.any,.any,.any,.any,.any,.any,.any,.any,.any,.any,.any,.any,.any,.any,.any,.any,.any,.any,.any,.any,.any,.any,.any,.any,.any,.any,.any,.any,.any,.any,.any,.any],[some ([.vec [.int .i32,.int .i32] (.var 15) (.var 1) true],aF),some ([.vec [.int .i32,.int .i32] (.var 16) (.var 2) true],aF),some ([.vec [.int .i64] (.var 17) (.var 3) true],aF),some ([.vec [.int .i32,.int .i32] (.var 18) (.var 5) true],aF),some ([.vec [.int .i32,.int .i32] (.var 19) (.var 6) true],aF),some ([.vec [.int .u8] (.var 20) (.var 7) true],aF),some ([.vec [.int .i64] (.lit 0) (.lit 0) true],aF),some ([.vec [.int .i64] (.lit 0) (.lit 0) true],aF),some ([.vec [.int .i64] (.lit 0) (.lit 0) true],aF),some ([.vec [.int .i64] (.lit 0) (.lit 0) true],aF),some ([.vec [.int .i32] (.var 21) (.var 14) true],aF),none,none,none,none]⟩
def aDc:List (Int × Int):=[(0,255),(0,9223372036854775807),(0,9223372036854775807),(0,17592186043904),((-9223372036854775808),9223372036854775807),(0,9223372036854775807),(0,9223372036854775807),(0,9223372036854775807),(0,9223372036854775807),(0,9223372036854775807),((-2147483648),2147483647),(0,9223372036854775807),(0,9223372036854775807),(0,9223372036854775807),(0,9223372036854775807),(0,4)]
def aTG:LoopS:=⟨15,15,aWR,.lit true,.exit 2,aVO,.exit 2,aVO⟩
def aLw:LoopU:=⟨aTG,[(.var 0),(.var 1),(.var 2),(.var 3),(.var 4),(.var 5),(.var 6),(.var 7),(.var 8),(.var 9),(.var 10),(.var 11),(.var 12),(.var 13),(.var 14),(.lit 0),(.var 15),(.var 16),(.var 17),(.var 18),(.var 19),(.var 20),(.var 21),(.var 22),(.app 73 (.cons (.var 17) (.cons (.var 20) (.cons (.var 7) (.cons (.var 4) (.cons (.var 16) (.cons (.var 16) (.cons (.var 2) (.cons (.app 65 (.cons (.var 15) (.cons (.var 17) (.cons (.var 18) (.cons (.var 5) (.cons (.var 21) (.cons (.var 14) (.cons (.var 14) .nil)))))))) (.cons (.var 3) (.cons (.var 2) .nil))))))))))),(.app 73 (.cons (.var 17) (.cons (.var 20) (.cons (.var 7) (.cons (.var 4) (.cons (.var 16) (.cons (.var 16) (.cons (.var 2) (.cons (.app 65 (.cons (.var 15) (.cons (.var 17) (.cons (.var 18) (.cons (.var 5) (.cons (.var 22) (.cons (.var 14) (.cons (.var 14) .nil)))))))) (.cons (.var 3) (.cons (.var 2) .nil)))))))))))],aDc,(.and (.and (.and (.cmp .eq (.var 0) (.lit 1)) (.and (.cmp .lt (.lit 0) (.var 1)) (.and (.cmp .le (.var 1) (.lit 4)) (.and (B.neg (.or (.and (.cmp .lt (.lit 0) (.var 1)) (.cmp .le (.app 82 (.cons (.var 16) (.cons (.lit 0) (.cons (.lit 1) .nil)))) (.app 82 (.cons (.var 16) (.cons (.lit 0) (.cons (.lit 0) .nil)))))) (.or (.and (.cmp .lt (.lit 1) (.var 1)) (.cmp .le (.app 82 (.cons (.var 16) (.cons (.lit 1) (.cons (.lit 1) .nil)))) (.app 82 (.cons (.var 16) (.cons (.lit 1) (.cons (.lit 0) .nil)))))) (.or (.and (.cmp .lt (.lit 2) (.var 1)) (.cmp .le (.app 82 (.cons (.var 16) (.cons (.lit 2) (.cons (.lit 1) .nil)))) (.app 82 (.cons (.var 16) (.cons (.lit 2) (.cons (.lit 0) .nil)))))) (.and (.cmp .lt (.lit 3) (.var 1)) (.cmp .le (.app 82 (.cons (.var 16) (.cons (.lit 3) (.cons (.lit 1) .nil)))) (.app 82 (.cons (.var 16) (.cons (.lit 3) (.cons (.lit 0) .nil)))))))))) (.and (.cmp .lt (.lit 0) (.var 2)) (.and (.cmp .le (.var 2) (.lit 4)) (.and (B.neg (.or (.and (.cmp .lt (.lit 0) (.var 2)) (.cmp .lt (.app 82 (.cons (.var 17) (.cons (.lit 0) (.cons (.lit 1) .nil)))) (.app 82 (.cons (.var 17) (.cons (.lit 0) (.cons (.lit 0) .nil)))))) (.or (.and (.cmp .lt (.lit 1) (.var 2)) (.cmp .lt (.app 82 (.cons (.var 17) (.cons (.lit 1) (.cons (.lit 1) .nil)))) (.app 82 (.cons (.var 17) (.cons (.lit 1) (.cons (.lit 0) .nil)))))) (.or (.and (.cmp .lt (.lit 2) (.var 2)) (.cmp .lt (.app 82 (.cons (.var 17) (.cons (.lit 2) (.cons (.lit 1) .nil)))) (.app 82 (.cons (.var 17) (.cons (.lit 2) (.cons (.lit 0) .nil)))))) (.and (.cmp .lt (.lit 3) (.var 2)) (.cmp .lt (.app 82 (.cons (.var 17) (.cons (.lit 3) (.cons (.lit 1) .nil)))) (.app 82 (.cons (.var 17) (.cons (.lit 3) (.cons (.lit 0) .nil)))))))))) (.and (.cmp .eq (.var 3) (.var 1)) (.and (B.neg (.or (.and (.cmp .lt (.lit 0) (.var 3)) (.or (.cmp .lt (.app 83 (.cons (.var 18) (.cons (.lit 0) (.cons (.lit 0) .nil)))) (.lit 1)) (.cmp .lt (.lit 256) (.app 83 (.cons (.var 18) (.cons (.lit 0) (.cons (.lit 0) .nil))))))) (.or (.and (.cmp .lt (.lit 1) (.var 3)) (.or (.cmp .lt (.app 83 (.cons (.var 18) (.cons (.lit 1) (.cons (.lit 0) .nil)))) (.lit 1)) (.cmp .lt (.lit 256) (.app 83 (.cons (.var 18) (.cons (.lit 1) (.cons (.lit 0) .nil))))))) (.or (.and (.cmp .lt (.lit 2) (.var 3)) (.or (.cmp .lt (.app 83 (.cons (.var 18) (.cons (.lit 2) (.cons (.lit 0) .nil)))) (.lit 1)) (.cmp .lt (.lit 256) (.app 83 (.cons (.var 18) (.cons (.lit 2) (.cons (.lit 0) .nil))))))) (.or (.and (.cmp .lt (.lit 3) (.var 3)) (.or (.cmp .lt (.app 83 (.cons (.var 18) (.cons (.lit 3) (.cons (.lit 0) .nil)))) (.lit 1)) (.cmp .lt (.lit 256) (.app 83 (.cons (.var 18) (.cons (.lit 3) (.cons (.lit 0) .nil))))))) (.or (.and (.cmp .lt (.lit 4) (.var 3)) (.or (.cmp .lt (.app 83 (.cons (.var 18) (.cons (.lit 4) (.cons (.lit 0) .nil)))) (.lit 1)) (.cmp .lt (.lit 256) (.app 83 (.cons (.var 18) (.cons (.lit 4) (.cons (.lit 0) .nil))))))) (.or (.and (.cmp .lt (.lit 5) (.var 3)) (.or (.cmp .lt (.app 83 (.cons (.var 18) (.cons (.lit 5) (.cons (.lit 0) .nil)))) (.lit 1)) (.cmp .lt (.lit 256) (.app 83 (.cons (.var 18) (.cons (.lit 5) (.cons (.lit 0) .nil))))))) (.or (.and (.cmp .lt (.lit 6) (.var 3)) (.or (.cmp .lt (.app 83 (.cons (.var 18) (.cons (.lit 6) (.cons (.lit 0) .nil)))) (.lit 1)) (.cmp .lt (.lit 256) (.app 83 (.cons (.var 18) (.cons (.lit 6) (.cons (.lit 0) .nil))))))) (.and (.cmp .lt (.lit 7) (.var 3)) (.or (.cmp .lt (.app 83 (.cons (.var 18) (.cons (.lit 7) (.cons (.lit 0) .nil)))) (.lit 1)) (.cmp .lt (.lit 256) (.app 83 (.cons (.var 18) (.cons (.lit 7) (.cons (.lit 0) .nil))))))))))))))) (.and (.or (.cmp .eq (.var 4) (.lit 1)) (.or (.cmp .eq (.var 4) (.lit 2)) (.or (.cmp .eq (.var 4) (.lit 4)) (.or (.cmp .eq (.var 4) (.lit 8)) (.or (.cmp .eq (.var 4) (.lit 12)) (.cmp .eq (.var 4) (.lit 16))))))) (.and (.or (.cmp .eq (.var 5) (.lit 0)) (.cmp .eq (.var 5) (.var 1))) (.or (.cmp .eq (.var 6) (.lit 0)) (.cmp .eq (.var 6) (.var 2)))))))))))))) (.and (.cmp .le (.app 63 (.cons (.var 2) (.cons (.var 4) (.cons (.var 18) (.cons (.var 3) .nil))))) (.lit 524288)) (.cmp .le (.app 63 (.cons (.var 2) (.cons (.var 4) (.cons (.var 18) (.cons (.var 3) .nil))))) (.op .mul (.lit 8) (.var 7))))) (.cmp .eq (.var 14) (.var 1)))⟩
def aLr:LoopU:=⟨aTG,[(.var 0),(.var 1),(.var 2),(.var 3),(.var 4),(.var 5),(.var 6),(.var 7),(.var 8),(.var 9),(.var 10),(.var 11),(.var 12),(.var 13),(.var 14),(.lit 0),(.var 15),(.var 16),(.var 17),(.var 18),(.var 19),(.var 20),(.var 21),(.var 22),(.app 73 (.cons (.var 17) (.cons (.var 20) (.cons (.var 7) (.cons (.var 4) (.cons (.var 19) (.cons (.var 16) (.cons (.var 2) (.cons (.app 65 (.cons (.var 15) (.cons (.var 17) (.cons (.var 18) (.cons (.var 5) (.cons (.var 21) (.cons (.var 14) (.cons (.var 14) .nil)))))))) (.cons (.var 3) (.cons (.var 2) .nil))))))))))),(.app 73 (.cons (.var 17) (.cons (.var 20) (.cons (.var 7) (.cons (.var 4) (.cons (.var 19) (.cons (.var 16) (.cons (.var 2) (.cons (.app 65 (.cons (.var 15) (.cons (.var 17) (.cons (.var 18) (.cons (.var 5) (.cons (.var 22) (.cons (.var 14) (.cons (.var 14) .nil)))))))) (.cons (.var 3) (.cons (.var 2) .nil)))))))))))],aDc,(.and (.and (.and (.cmp .eq (.var 0) (.lit 1)) (.and (.cmp .lt (.lit 0) (.var 1)) (.and (.cmp .le (.var 1) (.lit 4)) (.and (B.neg (.or (.and (.cmp .lt (.lit 0) (.var 1)) (.cmp .le (.app 82 (.cons (.var 16) (.cons (.lit 0) (.cons (.lit 1) .nil)))) (.app 82 (.cons (.var 16) (.cons (.lit 0) (.cons (.lit 0) .nil)))))) (.or (.and (.cmp .lt (.lit 1) (.var 1)) (.cmp .le (.app 82 (.cons (.var 16) (.cons (.lit 1) (.cons (.lit 1) .nil)))) (.app 82 (.cons (.var 16) (.cons (.lit 1) (.cons (.lit 0) .nil)))))) (.or (.and (.cmp .lt (.lit 2) (.var 1)) (.cmp .le (.app 82 (.cons (.var 16) (.cons (.lit 2) (.cons (.lit 1) .nil)))) (.app 82 (.cons (.var 16) (.cons (.lit 2) (.cons (.lit 0) .nil)))))) (.and (.cmp .lt (.lit 3) (.var 1)) (.cmp .le (.app 82 (.cons (.var 16) (.cons (.lit 3) (.cons (.lit 1) .nil)))) (.app 82 (.cons (.var 16) (.cons (.lit 3) (.cons (.lit 0) .nil)))))))))) (.and (.cmp .lt (.lit 0) (.var 2)) (.and (.cmp .le (.var 2) (.lit 4)) (.and (B.neg (.or (.and (.cmp .lt (.lit 0) (.var 2)) (.cmp .lt (.app 82 (.cons (.var 17) (.cons (.lit 0) (.cons (.lit 1) .nil)))) (.app 82 (.cons (.var 17) (.cons (.lit 0) (.cons (.lit 0) .nil)))))) (.or (.and (.cmp .lt (.lit 1) (.var 2)) (.cmp .lt (.app 82 (.cons (.var 17) (.cons (.lit 1) (.cons (.lit 1) .nil)))) (.app 82 (.cons (.var 17) (.cons (.lit 1) (.cons (.lit 0) .nil)))))) (.or (.and (.cmp .lt (.lit 2) (.var 2)) (.cmp .lt (.app 82 (.cons (.var 17) (.cons (.lit 2) (.cons (.lit 1) .nil)))) (.app 82 (.cons (.var 17) (.cons (.lit 2) (.cons (.lit 0) .nil)))))) (.and (.cmp .lt (.lit 3) (.var 2)) (.cmp .lt (.app 82 (.cons (.var 17) (.cons (.lit 3) (.cons (.lit 1) .nil)))) (.app 82 (.cons (.var 17) (.cons (.lit 3) (.cons (.lit 0) .nil)))))))))) (.and (.cmp .eq (.var 3) (.var 1)) (.and (B.neg (.or (.and (.cmp .lt (.lit 0) (.var 3)) (.or (.cmp .lt (.app 83 (.cons (.var 18) (.cons (.lit 0) (.cons (.lit 0) .nil)))) (.lit 1)) (.cmp .lt (.lit 256) (.app 83 (.cons (.var 18) (.cons (.lit 0) (.cons (.lit 0) .nil))))))) (.or (.and (.cmp .lt (.lit 1) (.var 3)) (.or (.cmp .lt (.app 83 (.cons (.var 18) (.cons (.lit 1) (.cons (.lit 0) .nil)))) (.lit 1)) (.cmp .lt (.lit 256) (.app 83 (.cons (.var 18) (.cons (.lit 1) (.cons (.lit 0) .nil))))))) (.or (.and (.cmp .lt (.lit 2) (.var 3)) (.or (.cmp .lt (.app 83 (.cons (.var 18) (.cons (.lit 2) (.cons (.lit 0) .nil)))) (.lit 1)) (.cmp .lt (.lit 256) (.app 83 (.cons (.var 18) (.cons (.lit 2) (.cons (.lit 0) .nil))))))) (.or (.and (.cmp .lt (.lit 3) (.var 3)) (.or (.cmp .lt (.app 83 (.cons (.var 18) (.cons (.lit 3) (.cons (.lit 0) .nil)))) (.lit 1)) (.cmp .lt (.lit 256) (.app 83 (.cons (.var 18) (.cons (.lit 3) (.cons (.lit 0) .nil))))))) (.or (.and (.cmp .lt (.lit 4) (.var 3)) (.or (.cmp .lt (.app 83 (.cons (.var 18) (.cons (.lit 4) (.cons (.lit 0) .nil)))) (.lit 1)) (.cmp .lt (.lit 256) (.app 83 (.cons (.var 18) (.cons (.lit 4) (.cons (.lit 0) .nil))))))) (.or (.and (.cmp .lt (.lit 5) (.var 3)) (.or (.cmp .lt (.app 83 (.cons (.var 18) (.cons (.lit 5) (.cons (.lit 0) .nil)))) (.lit 1)) (.cmp .lt (.lit 256) (.app 83 (.cons (.var 18) (.cons (.lit 5) (.cons (.lit 0) .nil))))))) (.or (.and (.cmp .lt (.lit 6) (.var 3)) (.or (.cmp .lt (.app 83 (.cons (.var 18) (.cons (.lit 6) (.cons (.lit 0) .nil)))) (.lit 1)) (.cmp .lt (.lit 256) (.app 83 (.cons (.var 18) (.cons (.lit 6) (.cons (.lit 0) .nil))))))) (.and (.cmp .lt (.lit 7) (.var 3)) (.or (.cmp .lt (.app 83 (.cons (.var 18) (.cons (.lit 7) (.cons (.lit 0) .nil)))) (.lit 1)) (.cmp .lt (.lit 256) (.app 83 (.cons (.var 18) (.cons (.lit 7) (.cons (.lit 0) .nil))))))))))))))) (.and (.or (.cmp .eq (.var 4) (.lit 1)) (.or (.cmp .eq (.var 4) (.lit 2)) (.or (.cmp .eq (.var 4) (.lit 4)) (.or (.cmp .eq (.var 4) (.lit 8)) (.or (.cmp .eq (.var 4) (.lit 12)) (.cmp .eq (.var 4) (.lit 16))))))) (.and (.or (.cmp .eq (.var 5) (.lit 0)) (.cmp .eq (.var 5) (.var 1))) (.or (.cmp .eq (.var 6) (.lit 0)) (.cmp .eq (.var 6) (.var 2)))))))))))))) (.and (.cmp .le (.app 63 (.cons (.var 2) (.cons (.var 4) (.cons (.var 18) (.cons (.var 3) .nil))))) (.lit 524288)) (.cmp .le (.app 63 (.cons (.var 2) (.cons (.var 4) (.cons (.var 18) (.cons (.var 3) .nil))))) (.op .mul (.lit 8) (.var 7))))) (.cmp .eq (.var 14) (.var 1)))⟩
def tG (P:Program) (fs:List B):Res SV:=cA G GI aDc fs fun X=>nX P X GB gH dO 4000 (cN (bV P 5) 1) aTG
def aSO:fG:=jL 5 (fT (bN GB) [aO5]) (jL 13 (fT (bN GB) [aLw,aLr]) dO)
def aWh:FunS:=⟨[(.agg [(.int .u8 (.var 0)),(.own 0 (.var 1) none),(.own 1 (.var 2) none),(.own 2 (.var 3) none),(.int .i64 (.var 4)),(.own 3 (.var 5) none),(.own 4 (.var 6) none),(.own 5 (.var 7) none),(.own 6 (.var 8) none),(.own 7 (.var 9) none),(.int .i32 (.var 10)),(.own 8 (.var 11) none),(.own 9 (.var 12) none),(.text (.var 13))]),(.own 10 (.var 14) none)],[some ([.vec [.int .i32,.int .i32] (.var 15) (.var 1) true],aF),some ([.vec [.int .i32,.int .i32] (.var 16) (.var 2) true],aF),some ([.vec [.int .i64] (.var 17) (.var 3) true],aF),some ([.vec [.int .i32,.int .i32] (.var 18) (.var 5) true],aF),some ([.vec [.int .i32,.int .i32] (.var 19) (.var 6) true],aF),some ([.vec [.int .u8] (.var 20) (.var 7) true],aF),some ([.vec [.int .i64] (.lit 0) (.lit 0) true],aF),some ([.vec [.int .i64] (.lit 0) (.lit 0) true],aF),some ([.vec [.int .i64] (.lit 0) (.lit 0) true],aF),some ([.vec [.int .i64] (.lit 0) (.lit 0) true],aF),some ([.vec [.int .i32] (.var 21) (.var 14) true],aF)],.lit true,.bool (.lit true),[some ([.vec [.int .i32,.int .i32] (.var 15) (.var 1) true],aF),some ([.vec [.int .i32,.int .i32] (.var 16) (.var 2) true],aF),some ([.vec [.int .i64] (.var 17) (.var 3) true],aF),some ([.vec [.int .i32,.int .i32] (.var 18) (.var 5) true],aF),some ([.vec [.int .i32,.int .i32] (.var 19) (.var 6) true],aF),some ([.vec [.int .u8] (.var 20) (.var 7) true],aF),some ([.vec [.int .i64] (.lit 0) (.lit 0) true],aF),some ([.vec [.int .i64] (.lit 0) (.lit 0) true],aF),some ([.vec [.int .i64] (.lit 0) (.lit 0) true],aF),some ([.vec [.int .i64] (.lit 0) (.lit 0) true],aF),some ([.vec [.int .i32] (.var 21) (.var 14) true],aF)],.bool (.lit true),[some ([.vec [.int .i32,.int .i32] (.var 15) (.var 1) true],aF),some ([.vec [.int .i32,.int .i32] (.var 16) (.var 2) true],aF),some ([.vec [.int .i64] (.var 17) (.var 3) true],aF),some ([.vec [.int .i32,.int .i32] (.var 18) (.var 5) true],aF),some ([.vec [.int .i32,.int .i32] (.var 19) (.var 6) true],aF),some ([.vec [.int .u8] (.var 20) (.var 7) true],aF),some ([.vec [.int .i64] (.lit 0) (.lit 0) true],aF),some ([.vec [.int .i64] (.lit 0) (.lit 0) true],aF),some ([.vec [.int .i64] (.lit 0) (.lit 0) true],aF),some ([.vec [.int .i64] (.lit 0) (.lit 0) true],aF),some ([.vec [.int .i32] (.var 21) (.var 14) true],aF)]⟩
def aLH (P:Program) (fs:List B):Res SV:=cA G GI [(0,255),(0,9223372036854775807),(0,9223372036854775807),(0,17592186043904),((-9223372036854775808),9223372036854775807),(0,9223372036854775807),(0,9223372036854775807),(0,9223372036854775807),(0,9223372036854775807),(0,9223372036854775807),((-2147483648),2147483647),(0,9223372036854775807),(0,9223372036854775807),(0,9223372036854775807),(0,9223372036854775807)] fs fun X=>gJ P X GB aSK aSO 4000 5 aWh
theorem aKJ:bI (bV Try.prog 5)=[cN (bV Try.prog 5) 0,cN (bV Try.prog 5) 1]:=by kernel_rfl
end Go.Proofs.Ytdldallkeheciaa
set_option maxRecDepth 100000
namespace Go.Proofs.Ytdldallkeheciaa
open Go Go.RowKit Sx Wi Lk
def aLa (P:Program) (fs:List B):Res SV:=tG P fs
def aGw:List B:=[]
def lW:B:=(.cmp .lt (.var 15) (.var 2))
def aM5:List B:=aJ lW++aGw
def aCC:B:=(.cmp .le (.var 2) (.lit 4))
def aQq:List B:=aJ aCC++aM5
def aCg:B:=(.cmp .eq (.app 82 (.cons (.var 24) (.cons (.var 15) (.cons (.lit 0) .nil)))) (.app 82 (.cons (.var 25) (.cons (.var 15) (.cons (.lit 0) .nil)))))
def aNA:List B:=aJ aCg++aQq
def aCY:B:=(.cmp .le (.app 82 (.cons (.var 17) (.cons (.var 15) (.cons (.lit 0) .nil)))) (.app 82 (.cons (.var 24) (.cons (.var 15) (.cons (.lit 0) .nil)))))
def aQ6:List B:=aJ aCY++aNA
def aCp:B:=(.cmp .le (.app 82 (.cons (.var 24) (.cons (.var 15) (.cons (.lit 0) .nil)))) (.app 82 (.cons (.var 17) (.cons (.var 15) (.cons (.lit 1) .nil)))))
def aQY:List B:=aJ aCp++aQ6
def aGy:SV:=(.agg [(.int .i64 (.op .add (.var 15) (.lit 1))),(.int .i64 (.var 15)),(.int .i64 (.var 16)),(.int .i64 (.var 16)),(.int .i64 (.var 17)),(.int .i64 (.var 17)),(.int .i64 (.var 18)),(.int .i64 (.var 18)),(.int .i64 (.var 19)),(.int .i64 (.var 19)),(.int .i64 (.var 20)),(.int .i64 (.var 20)),(.int .i64 (.var 21)),(.int .i64 (.var 21)),(.int .i64 (.var 22)),(.int .i64 (.var 22)),(.int .i64 (.var 23)),(.int .i64 (.var 23)),(.int .i64 (.var 24)),(.int .i64 (.var 24)),(.int .i64 (.var 25)),(.int .i64 (.var 25))])
def aJ5:List B:=aJ (B.neg lW)++aGw
def aGo:SV:=(.tuple [(.agg [(.int .i64 (.var 16)),(.int .i64 (.var 15)),(.int .i64 (.var 17)),(.int .i64 (.var 16)),(.int .i64 (.var 18)),(.int .i64 (.var 17)),(.int .i64 (.var 19)),(.int .i64 (.var 18)),(.int .i64 (.var 20)),(.int .i64 (.var 19)),(.int .i64 (.var 21)),(.int .i64 (.var 20)),(.int .i64 (.var 22)),(.int .i64 (.var 21))]),(.bool (.lit true))])
theorem aOQ:aLa Try.prog aQY = .ok aGy:=by kernel_rfl
theorem aJO:aLa Try.prog aJ5 = .ok aGo:=by kernel_rfl
end Go.Proofs.Ytdldallkeheciaa
set_option maxRecDepth 100000
namespace Go.Proofs.Ytdldallkeheciaa
open Go Go.RowKit Sx Wi Lk
def gZ (P:Program) (fs:List B):Res SV:=aLH P fs
def aGM:List B:=[]
def aBB:B:=(.cmp .lt (.lit 8) (.var 1))
def aNj:List B:=aJ aBB++aGM
def aFO:List B:=aJ (B.neg aBB)++aGM
def aCi:B:=(.cmp .lt (.lit 8) (.var 2))
def aOe:List B:=aJ aCi++aFO
def aGJ:List B:=aJ (B.neg aCi)++aFO
def aBu:B:=(.cmp .lt (.lit 8) (.var 3))
def aQc:List B:=aJ aBu++aGJ
def aG4:List B:=aJ (B.neg aBu)++aGJ
def aCU:B:=(.cmp .lt (.lit 8) (.var 5))
def aR6:List B:=aJ aCU++aG4
def aHy:List B:=aJ (B.neg aCU)++aG4
def aB6:B:=(.cmp .lt (.lit 8) (.var 6))
def aNC:List B:=aJ aB6++aHy
def aDw:List B:=aJ (B.neg aB6)++aHy
def aCG:B:=(.cmp .lt (.lit 70000) (.var 7))
def aJG:List B:=aJ aCG++aDw
def aDI:List B:=aJ (B.neg aCG)++aDw
def aBS:B:=(.cmp .lt (.lit 8) (.var 8))
def aJ0:List B:=aJ aBS++aDI
def aDr:List B:=aJ (B.neg aBS)++aDI
def aCK:B:=(.cmp .lt (.lit 8) (.var 9))
def aK7:List B:=aJ aCK++aDr
def aDq:List B:=aJ (B.neg aCK)++aDr
def aBd:B:=(.cmp .lt (.lit 10) (.var 12))
def aJj:List B:=aJ aBd++aDq
def aEi:List B:=aJ (B.neg aBd)++aDq
def aCI:B:=(.cmp .lt (.lit 10) (.var 11))
def aJt:List B:=aJ aCI++aEi
def aDZ:List B:=aJ (B.neg aCI)++aEi
def yE:B:=(.cmp .lt (.lit 5000) (.var 13))
def aJn:List B:=aJ yE++aDZ
def aDF:List B:=aJ (B.neg yE)++aDZ
def dP:B:=(.cmp .ne (.var 14) (.var 1))
def aIN:List B:=aJ dP++aDF
def aDM:List B:=aJ (B.neg dP)++aDF
def dQ:B:=(.and (.and (.cmp .eq (.var 0) (.lit 1)) (.and (.cmp .lt (.lit 0) (.var 1)) (.and (.cmp .le (.var 1) (.lit 4)) (.and (B.neg (.or (.and (.cmp .lt (.lit 0) (.var 1)) (.cmp .le (.app 82 (.cons (.var 15) (.cons (.lit 0) (.cons (.lit 1) .nil)))) (.app 82 (.cons (.var 15) (.cons (.lit 0) (.cons (.lit 0) .nil)))))) (.or (.and (.cmp .lt (.lit 1) (.var 1)) (.cmp .le (.app 82 (.cons (.var 15) (.cons (.lit 1) (.cons (.lit 1) .nil)))) (.app 82 (.cons (.var 15) (.cons (.lit 1) (.cons (.lit 0) .nil)))))) (.or (.and (.cmp .lt (.lit 2) (.var 1)) (.cmp .le (.app 82 (.cons (.var 15) (.cons (.lit 2) (.cons (.lit 1) .nil)))) (.app 82 (.cons (.var 15) (.cons (.lit 2) (.cons (.lit 0) .nil)))))) (.and (.cmp .lt (.lit 3) (.var 1)) (.cmp .le (.app 82 (.cons (.var 15) (.cons (.lit 3) (.cons (.lit 1) .nil)))) (.app 82 (.cons (.var 15) (.cons (.lit 3) (.cons (.lit 0) .nil)))))))))) (.and (.cmp .lt (.lit 0) (.var 2)) (.and (.cmp .le (.var 2) (.lit 4)) (.and (B.neg (.or (.and (.cmp .lt (.lit 0) (.var 2)) (.cmp .lt (.app 82 (.cons (.var 16) (.cons (.lit 0) (.cons (.lit 1) .nil)))) (.app 82 (.cons (.var 16) (.cons (.lit 0) (.cons (.lit 0) .nil)))))) (.or (.and (.cmp .lt (.lit 1) (.var 2)) (.cmp .lt (.app 82 (.cons (.var 16) (.cons (.lit 1) (.cons (.lit 1) .nil)))) (.app 82 (.cons (.var 16) (.cons (.lit 1) (.cons (.lit 0) .nil)))))) (.or (.and (.cmp .lt (.lit 2) (.var 2)) (.cmp .lt (.app 82 (.cons (.var 16) (.cons (.lit 2) (.cons (.lit 1) .nil)))) (.app 82 (.cons (.var 16) (.cons (.lit 2) (.cons (.lit 0) .nil)))))) (.and (.cmp .lt (.lit 3) (.var 2)) (.cmp .lt (.app 82 (.cons (.var 16) (.cons (.lit 3) (.cons (.lit 1) .nil)))) (.app 82 (.cons (.var 16) (.cons (.lit 3) (.cons (.lit 0) .nil)))))))))) (.and (.cmp .eq (.var 3) (.var 1)) (.and (B.neg (.or (.and (.cmp .lt (.lit 0) (.var 3)) (.or (.cmp .lt (.app 83 (.cons (.var 17) (.cons (.lit 0) (.cons (.lit 0) .nil)))) (.lit 1)) (.cmp .lt (.lit 256) (.app 83 (.cons (.var 17) (.cons (.lit 0) (.cons (.lit 0) .nil))))))) (.or (.and (.cmp .lt (.lit 1) (.var 3)) (.or (.cmp .lt (.app 83 (.cons (.var 17) (.cons (.lit 1) (.cons (.lit 0) .nil)))) (.lit 1)) (.cmp .lt (.lit 256) (.app 83 (.cons (.var 17) (.cons (.lit 1) (.cons (.lit 0) .nil))))))) (.or (.and (.cmp .lt (.lit 2) (.var 3)) (.or (.cmp .lt (.app 83 (.cons (.var 17) (.cons (.lit 2) (.cons (.lit 0) .nil)))) (.lit 1)) (.cmp .lt (.lit 256) (.app 83 (.cons (.var 17) (.cons (.lit 2) (.cons (.lit 0) .nil))))))) (.or (.and (.cmp .lt (.lit 3) (.var 3)) (.or (.cmp .lt (.app 83 (.cons (.var 17) (.cons (.lit 3) (.cons (.lit 0) .nil)))) (.lit 1)) (.cmp .lt (.lit 256) (.app 83 (.cons (.var 17) (.cons (.lit 3) (.cons (.lit 0) .nil))))))) (.or (.and (.cmp .lt (.lit 4) (.var 3)) (.or (.cmp .lt (.app 83 (.cons (.var 17) (.cons (.lit 4) (.cons (.lit 0) .nil)))) (.lit 1)) (.cmp .lt (.lit 256) (.app 83 (.cons (.var 17) (.cons (.lit 4) (.cons (.lit 0) .nil))))))) (.or (.and (.cmp .lt (.lit 5) (.var 3)) (.or (.cmp .lt (.app 83 (.cons (.var 17) (.cons (.lit 5) (.cons (.lit 0) .nil)))) (.lit 1)) (.cmp .lt (.lit 256) (.app 83 (.cons (.var 17) (.cons (.lit 5) (.cons (.lit 0) .nil))))))) (.or (.and (.cmp .lt (.lit 6) (.var 3)) (.or (.cmp .lt (.app 83 (.cons (.var 17) (.cons (.lit 6) (.cons (.lit 0) .nil)))) (.lit 1)) (.cmp .lt (.lit 256) (.app 83 (.cons (.var 17) (.cons (.lit 6) (.cons (.lit 0) .nil))))))) (.and (.cmp .lt (.lit 7) (.var 3)) (.or (.cmp .lt (.app 83 (.cons (.var 17) (.cons (.lit 7) (.cons (.lit 0) .nil)))) (.lit 1)) (.cmp .lt (.lit 256) (.app 83 (.cons (.var 17) (.cons (.lit 7) (.cons (.lit 0) .nil))))))))))))))) (.and (.or (.cmp .eq (.var 4) (.lit 1)) (.or (.cmp .eq (.var 4) (.lit 2)) (.or (.cmp .eq (.var 4) (.lit 4)) (.or (.cmp .eq (.var 4) (.lit 8)) (.or (.cmp .eq (.var 4) (.lit 12)) (.cmp .eq (.var 4) (.lit 16))))))) (.and (.or (.cmp .eq (.var 5) (.lit 0)) (.cmp .eq (.var 5) (.var 1))) (.or (.cmp .eq (.var 6) (.lit 0)) (.cmp .eq (.var 6) (.var 2)))))))))))))) (.and (.cmp .le (.app 63 (.cons (.var 2) (.cons (.var 4) (.cons (.var 17) (.cons (.var 3) .nil))))) (.lit 524288)) (.cmp .le (.app 63 (.cons (.var 2) (.cons (.var 4) (.cons (.var 17) (.cons (.var 3) .nil))))) (.op .mul (.lit 8) (.var 7)))))
def aKq:List B:=aJ dQ++aDM
def yH:B:=(.cmp .le (.lit 1) (.var 1))
def aKY:List B:=aJ yH++aKq
def zY:B:=(.cmp .le (.var 1) (.lit 4))
def aI4:List B:=aJ zY++aKY
def wW:B:=(.cmp .eq (.var 3) (.var 1))
def aMD:List B:=aJ wW++aI4
def zR:B:=(.cmp .le (.lit 1) (.var 3))
def aKH:List B:=aJ zR++aMD
def xU:B:=(.cmp .le (.var 3) (.lit 4))
def aKT:List B:=aJ xU++aKH
def aAf:B:=(.cmp .le (.lit 1) (.var 14))
def aLl:List B:=aJ aAf++aKT
def xP:B:=(.cmp .le (.var 14) (.lit 4))
def aMM:List B:=aJ xP++aLl
def xM:B:=(.cmp .le (.lit 1) (.var 2))
def aKc:List B:=aJ xM++aMM
def yO:B:=(.cmp .le (.var 2) (.lit 4))
def aIU:List B:=aJ yO++aKc
def yP:B:=(.cmp .le (.lit 1) (.var 4))
def aLC:List B:=aJ yP++aIU
def xV:B:=(.cmp .le (.var 4) (.lit 16))
def aDQ:List B:=aJ xV++aLC
def pN:B:=(.cmp .eq (.var 6) (.lit 0))
def aIO:List B:=aJ pN++aDQ
def aK9:List B:=aJ (B.neg pN)++aDQ
def xE:B:=(.cmp .eq (.var 6) (.var 2))
def aJL:List B:=aJ xE++aK9
def yV:B:=(.cmp .lt (.lit 0) (.var 6))
def aKz:List B:=aJ yV++aJL
def aIW:List B:=aJ (B.neg dQ)++aDM
end Go.Proofs.Ytdldallkeheciaa
set_option maxRecDepth 100000
namespace Go.Proofs.Ytdldallkeheciaa
open Go Go.RowKit Sx Wi Lk
theorem aQZ:gZ Try.prog aNj = .ok (.tuple [(.agg []),(.bool (.lit true))]):=by kernel_rfl
theorem aRW:gZ Try.prog aOe = .ok (.tuple [(.agg []),(.bool (.lit true))]):=by kernel_rfl
theorem aRE:gZ Try.prog aQc = .ok (.tuple [(.agg []),(.bool (.lit true))]):=by kernel_rfl
theorem aOi:gZ Try.prog aR6 = .ok (.tuple [(.agg []),(.bool (.lit true))]):=by kernel_rfl
theorem aN7:gZ Try.prog aNC = .ok (.tuple [(.agg []),(.bool (.lit true))]):=by kernel_rfl
theorem aL2:gZ Try.prog aJG = .ok (.tuple [(.agg []),(.bool (.lit true))]):=by kernel_rfl
end Go.Proofs.Ytdldallkeheciaa
set_option maxRecDepth 100000
namespace Go.Proofs.Ytdldallkeheciaa
open Go Go.RowKit Sx Wi Lk
theorem aLI:gZ Try.prog aJ0 = .ok (.tuple [(.agg []),(.bool (.lit true))]):=by kernel_rfl
theorem aJC:gZ Try.prog aK7 = .ok (.tuple [(.agg []),(.bool (.lit true))]):=by kernel_rfl
theorem aL9:gZ Try.prog aJj = .ok (.tuple [(.agg []),(.bool (.lit true))]):=by kernel_rfl
theorem aLP:gZ Try.prog aJt = .ok (.tuple [(.agg []),(.bool (.lit true))]):=by kernel_rfl
theorem aJR:gZ Try.prog aJn = .ok (.tuple [(.agg []),(.bool (.lit true))]):=by kernel_rfl
theorem aLS:gZ Try.prog aIN = .ok (.tuple [(.agg []),(.bool (.lit true))]):=by kernel_rfl
end Go.Proofs.Ytdldallkeheciaa
set_option maxRecDepth 100000
namespace Go.Proofs.Ytdldallkeheciaa
open Go Go.RowKit Sx Wi Lk
theorem aIS:gZ Try.prog aIO = .ok (.tuple [(.agg []),(.bool (.lit true))]):=by kernel_rfl
theorem aKW:gZ Try.prog aKz = .ok (.tuple [(.agg []),(.bool (.lit true))]):=by kernel_rfl
theorem aJZ:gZ Try.prog aIW = .ok (.tuple [(.agg []),(.bool (.lit true))]):=by kernel_rfl
end Go.Proofs.Ytdldallkeheciaa
