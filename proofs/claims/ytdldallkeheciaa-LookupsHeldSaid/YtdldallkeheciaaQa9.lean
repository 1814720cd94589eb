/- What is proved: Eval of a table of any number of inputs: the run. No condition but the numbers' own bounds. -/
import Derived.Test.YtdldallkeheciaaQa8
import Derived.Test.YtdldallkeheciaaProg
import Derived.Test.YtdldallkeheciaaQNn
import Derived.Test.YtdldallkeheciaaQg4
set_option linter.unusedSimpArgs false
set_option linter.unusedVariables false
namespace Go.Proofs.Ytdldallkeheciaa
open Go Go.RowKit Sx Wi Lk
def aFE:LoopU:=⟨aUl,[(.var 0),(.var 1),(.var 2),(.var 3),(.var 4),(.var 5),(.var 6),(.var 7),(.var 8),(.lit 0),(.var 9),(.var 10),(.var 11),(.var 12),(.var 13),(.var 14),(.var 15),(.app 96 (.cons (.var 8) (.cons (.lit 0) (.cons (.lit 0) (.cons (.lit 0) .nil)))))],tH,.lit true⟩
def aFy:LoopU:=⟨aSv,[(.var 0),(.var 1),(.var 2),(.var 3),(.var 4),(.var 5),(.var 6),(.var 7),(.var 8),(.lit 0),(.var 9),(.var 10),(.var 11),(.var 12),(.var 13),(.var 14),(.var 15),(.app 96 (.cons (.var 2) (.cons (.lit 0) .nil)))],uK,.lit true⟩
def aKL:fG:=jL 8 (fT (bN GB) [aFE]) (jL 17 (fT (bN GB) [aFy]) dO)
def aB1:B:=(.and (.and (.and (.cmp .eq (.var 0) (.lit 1)) (.and (.cmp .lt (.lit 0) (.var 1)) (.and (.cmp .le (.var 1) (.lit 4)) (.and (B.neg (.or (.and (.cmp .lt (.lit 0) (.var 1)) (.cmp .le (.app 82 (.cons (.var 9) (.cons (.lit 0) (.cons (.lit 1) .nil)))) (.app 82 (.cons (.var 9) (.cons (.lit 0) (.cons (.lit 0) .nil)))))) (.or (.and (.cmp .lt (.lit 1) (.var 1)) (.cmp .le (.app 82 (.cons (.var 9) (.cons (.lit 1) (.cons (.lit 1) .nil)))) (.app 82 (.cons (.var 9) (.cons (.lit 1) (.cons (.lit 0) .nil)))))) (.or (.and (.cmp .lt (.lit 2) (.var 1)) (.cmp .le (.app 82 (.cons (.var 9) (.cons (.lit 2) (.cons (.lit 1) .nil)))) (.app 82 (.cons (.var 9) (.cons (.lit 2) (.cons (.lit 0) .nil)))))) (.and (.cmp .lt (.lit 3) (.var 1)) (.cmp .le (.app 82 (.cons (.var 9) (.cons (.lit 3) (.cons (.lit 1) .nil)))) (.app 82 (.cons (.var 9) (.cons (.lit 3) (.cons (.lit 0) .nil)))))))))) (.and (.cmp .lt (.lit 0) (.var 2)) (.and (.cmp .le (.var 2) (.lit 4)) (.and (B.neg (.or (.and (.cmp .lt (.lit 0) (.var 2)) (.cmp .lt (.app 82 (.cons (.var 10) (.cons (.lit 0) (.cons (.lit 1) .nil)))) (.app 82 (.cons (.var 10) (.cons (.lit 0) (.cons (.lit 0) .nil)))))) (.or (.and (.cmp .lt (.lit 1) (.var 2)) (.cmp .lt (.app 82 (.cons (.var 10) (.cons (.lit 1) (.cons (.lit 1) .nil)))) (.app 82 (.cons (.var 10) (.cons (.lit 1) (.cons (.lit 0) .nil)))))) (.or (.and (.cmp .lt (.lit 2) (.var 2)) (.cmp .lt (.app 82 (.cons (.var 10) (.cons (.lit 2) (.cons (.lit 1) .nil)))) (.app 82 (.cons (.var 10) (.cons (.lit 2) (.cons (.lit 0) .nil)))))) (.and (.cmp .lt (.lit 3) (.var 2)) (.cmp .lt (.app 82 (.cons (.var 10) (.cons (.lit 3) (.cons (.lit 1) .nil)))) (.app 82 (.cons (.var 10) (.cons (.lit 3) (.cons (.lit 0) .nil)))))))))) (.and (.cmp .eq (.var 3) (.var 1)) (.and (B.neg (.or (.and (.cmp .lt (.lit 0) (.var 3)) (.or (.cmp .lt (.app 83 (.cons (.var 11) (.cons (.lit 0) (.cons (.lit 0) .nil)))) (.lit 1)) (.cmp .lt (.lit 256) (.app 83 (.cons (.var 11) (.cons (.lit 0) (.cons (.lit 0) .nil))))))) (.or (.and (.cmp .lt (.lit 1) (.var 3)) (.or (.cmp .lt (.app 83 (.cons (.var 11) (.cons (.lit 1) (.cons (.lit 0) .nil)))) (.lit 1)) (.cmp .lt (.lit 256) (.app 83 (.cons (.var 11) (.cons (.lit 1) (.cons (.lit 0) .nil))))))) (.or (.and (.cmp .lt (.lit 2) (.var 3)) (.or (.cmp .lt (.app 83 (.cons (.var 11) (.cons (.lit 2) (.cons (.lit 0) .nil)))) (.lit 1)) (.cmp .lt (.lit 256) (.app 83 (.cons (.var 11) (.cons (.lit 2) (.cons (.lit 0) .nil))))))) (.or (.and (.cmp .lt (.lit 3) (.var 3)) (.or (.cmp .lt (.app 83 (.cons (.var 11) (.cons (.lit 3) (.cons (.lit 0) .nil)))) (.lit 1)) (.cmp .lt (.lit 256) (.app 83 (.cons (.var 11) (.cons (.lit 3) (.cons (.lit 0) .nil))))))) (.or (.and (.cmp .lt (.lit 4) (.var 3)) (.or (.cmp .lt (.app 83 (.cons (.var 11) (.cons (.lit 4) (.cons (.lit 0) .nil)))) (.lit 1)) (.cmp .lt (.lit 256) (.app 83 (.cons (.var 11) (.cons (.lit 4) (.cons (.lit 0) .nil))))))) (.or (.and (.cmp .lt (.lit 5) (.var 3)) (.or (.cmp .lt (.app 83 (.cons (.var 11) (.cons (.lit 5) (.cons (.lit 0) .nil)))) (.lit 1)) (.cmp .lt (.lit 256) (.app 83 (.cons (.var 11) (.cons (.lit 5) (.cons (.lit 0) .nil))))))) (.or (.and (.cmp .lt (.lit 6) (.var 3)) (.or (.cmp .lt (.app 83 (.cons (.var 11) (.cons (.lit 6) (.cons (.lit 0) .nil)))) (.lit 1)) (.cmp .lt (.lit 256) (.app 83 (.cons (.var 11) (.cons (.lit 6) (.cons (.lit 0) .nil))))))) (.and (.cmp .lt (.lit 7) (.var 3)) (.or (.cmp .lt (.app 83 (.cons (.var 11) (.cons (.lit 7) (.cons (.lit 0) .nil)))) (.lit 1)) (.cmp .lt (.lit 256) (.app 83 (.cons (.var 11) (.cons (.lit 7) (.cons (.lit 0) .nil))))))))))))))) (.and (.or (.cmp .eq (.var 4) (.lit 1)) (.or (.cmp .eq (.var 4) (.lit 2)) (.or (.cmp .eq (.var 4) (.lit 4)) (.or (.cmp .eq (.var 4) (.lit 8)) (.or (.cmp .eq (.var 4) (.lit 12)) (.cmp .eq (.var 4) (.lit 16))))))) (.and (.or (.cmp .eq (.var 5) (.lit 0)) (.cmp .eq (.var 5) (.var 1))) (.or (.cmp .eq (.var 6) (.lit 0)) (.cmp .eq (.var 6) (.var 2)))))))))))))) (.and (.cmp .le (.app 63 (.cons (.var 2) (.cons (.var 4) (.cons (.var 11) (.cons (.var 3) .nil))))) (.lit 524288)) (.cmp .le (.app 63 (.cons (.var 2) (.cons (.var 4) (.cons (.var 11) (.cons (.var 3) .nil))))) (.op .mul (.lit 8) (.var 7))))) (.and (.cmp .eq (.var 8) (.var 1)) (.cmp .eq (.var 6) (.lit 0))))
def aJD:FunS:=⟨[(.agg [(.int .u8 (.var 0)),(.own 0 (.var 1) none),(.own 1 (.var 2) none),(.own 2 (.var 3) none),(.int .i64 (.var 4)),(.own 3 (.var 5) none),(.own 4 (.var 6) none),(.own 5 (.var 7) none),.any,.any,.any,.any,.any,.any]),(.own 6 (.var 8) none)],[some ([.vec [.int .i32,.int .i32] (.var 9) (.var 1) true],aF),some ([.vec [.int .i32,.int .i32] (.var 10) (.var 2) true],aF),some ([.vec [.int .i64] (.var 11) (.var 3) true],aF),some ([.vec [.int .i32,.int .i32] (.var 12) (.var 5) true],aF),some ([.vec [.int .i32,.int .i32] (.var 13) (.var 6) true],aF),some ([.vec [.int .u8] (.var 14) (.var 7) true],aF),some ([.vec [.int .i32] (.var 15) (.var 8) true],aF)],.lit true,(.tuple [(.own 7 (.var 2) (some (.var 2))),(.int .i64 (.lit 0))]),[some ([.vec [.int .i32,.int .i32] (.var 9) (.var 1) true],aF),some ([.vec [.int .i32,.int .i32] (.var 10) (.var 2) true],aF),some ([.vec [.int .i64] (.var 11) (.var 3) true],aF),some ([.vec [.int .i32,.int .i32] (.var 12) (.var 5) true],aF),some ([.vec [.int .i32,.int .i32] (.var 13) (.var 6) true],aF),some ([.vec [.int .u8] (.var 14) (.var 7) true],aF),some ([.vec [.int .i32] (.var 15) (.var 8) true],aF),some ([.vec [.int .i32] (.app 73 (.cons (.var 11) (.cons (.var 14) (.cons (.var 7) (.cons (.var 4) (.cons (.var 10) (.cons (.var 10) (.cons (.var 2) (.cons (.app 65 (.cons (.var 9) (.cons (.var 11) (.cons (.var 12) (.cons (.var 5) (.cons (.var 15) (.cons (.var 8) (.cons (.var 8) .nil)))))))) (.cons (.var 3) (.cons (.var 2) .nil))))))))))) (.var 2) true],aU+27)],(.tuple [(.own 7 (.var 2) (some (.var 2))),(.int .i64 (.lit 0))]),[some ([.vec [.int .i32,.int .i32] (.var 9) (.var 1) true],aF),some ([.vec [.int .i32,.int .i32] (.var 10) (.var 2) true],aF),some ([.vec [.int .i64] (.var 11) (.var 3) true],aF),some ([.vec [.int .i32,.int .i32] (.var 12) (.var 5) true],aF),some ([.vec [.int .i32,.int .i32] (.var 13) (.var 6) true],aF),some ([.vec [.int .u8] (.var 14) (.var 7) true],aF),some ([.vec [.int .i32] (.var 15) (.var 8) true],aF),some ([.vec [.int .i32] (.app 73 (.cons (.var 11) (.cons (.var 14) (.cons (.var 7) (.cons (.var 4) (.cons (.var 10) (.cons (.var 10) (.cons (.var 2) (.cons (.app 65 (.cons (.var 9) (.cons (.var 11) (.cons (.var 12) (.cons (.var 5) (.cons (.var 15) (.cons (.var 8) (.cons (.var 8) .nil)))))))) (.cons (.var 3) (.cons (.var 2) .nil))))))))))) (.var 2) true],aU+27)]⟩
def aGg (P:Program) (fs:List B):Res SV:=cA G GI [(0,255),(0,8),(0,8),(0,8),((-9223372036854775808),9223372036854775807),(0,8),(0,8),(0,70000),(0,8)] fs fun X=>gJ P X GB xT aKL 4000 11 aJD
theorem aIx:bI (bV Try.prog 11)=[cN (bV Try.prog 11) 0,cN (bV Try.prog 11) 1]:=by kernel_rfl
theorem aDh:bD (cN (bV Try.prog 11) 0)=[]:=by kernel_rfl
theorem aDW:bD (cN (bV Try.prog 11) 1)=(bW Try.prog 11).toList:=by kernel_rfl
end Go.Proofs.Ytdldallkeheciaa
set_option maxRecDepth 100000
namespace Go.Proofs.Ytdldallkeheciaa
open Go Go.RowKit Sx Wi Lk
def aVw (P:Program) (fs:List B):Res SV:=aGg P fs
def aPB:List B:=[]
def aBn:B:=(.and (.and (.cmp .eq (.var 0) (.lit 1)) (.and (.cmp .lt (.lit 0) (.var 1)) (.and (.cmp .le (.var 1) (.lit 4)) (.and (B.neg (.or (.and (.cmp .lt (.lit 0) (.var 1)) (.cmp .le (.app 82 (.cons (.var 9) (.cons (.lit 0) (.cons (.lit 1) .nil)))) (.app 82 (.cons (.var 9) (.cons (.lit 0) (.cons (.lit 0) .nil)))))) (.or (.and (.cmp .lt (.lit 1) (.var 1)) (.cmp .le (.app 82 (.cons (.var 9) (.cons (.lit 1) (.cons (.lit 1) .nil)))) (.app 82 (.cons (.var 9) (.cons (.lit 1) (.cons (.lit 0) .nil)))))) (.or (.and (.cmp .lt (.lit 2) (.var 1)) (.cmp .le (.app 82 (.cons (.var 9) (.cons (.lit 2) (.cons (.lit 1) .nil)))) (.app 82 (.cons (.var 9) (.cons (.lit 2) (.cons (.lit 0) .nil)))))) (.and (.cmp .lt (.lit 3) (.var 1)) (.cmp .le (.app 82 (.cons (.var 9) (.cons (.lit 3) (.cons (.lit 1) .nil)))) (.app 82 (.cons (.var 9) (.cons (.lit 3) (.cons (.lit 0) .nil)))))))))) (.and (.cmp .lt (.lit 0) (.var 2)) (.and (.cmp .le (.var 2) (.lit 4)) (.and (B.neg (.or (.and (.cmp .lt (.lit 0) (.var 2)) (.cmp .lt (.app 82 (.cons (.var 10) (.cons (.lit 0) (.cons (.lit 1) .nil)))) (.app 82 (.cons (.var 10) (.cons (.lit 0) (.cons (.lit 0) .nil)))))) (.or (.and (.cmp .lt (.lit 1) (.var 2)) (.cmp .lt (.app 82 (.cons (.var 10) (.cons (.lit 1) (.cons (.lit 1) .nil)))) (.app 82 (.cons (.var 10) (.cons (.lit 1) (.cons (.lit 0) .nil)))))) (.or (.and (.cmp .lt (.lit 2) (.var 2)) (.cmp .lt (.app 82 (.cons (.var 10) (.cons (.lit 2) (.cons (.lit 1) .nil)))) (.app 82 (.cons (.var 10) (.cons (.lit 2) (.cons (.lit 0) .nil)))))) (.and (.cmp .lt (.lit 3) (.var 2)) (.cmp .lt (.app 82 (.cons (.var 10) (.cons (.lit 3) (.cons (.lit 1) .nil)))) (.app 82 (.cons (.var 10) (.cons (.lit 3) (.cons (.lit 0) .nil)))))))))) (.and (.cmp .eq (.var 3) (.var 1)) (.and (B.neg (.or (.and (.cmp .lt (.lit 0) (.var 3)) (.or (.cmp .lt (.app 83 (.cons (.var 11) (.cons (.lit 0) (.cons (.lit 0) .nil)))) (.lit 1)) (.cmp .lt (.lit 256) (.app 83 (.cons (.var 11) (.cons (.lit 0) (.cons (.lit 0) .nil))))))) (.or (.and (.cmp .lt (.lit 1) (.var 3)) (.or (.cmp .lt (.app 83 (.cons (.var 11) (.cons (.lit 1) (.cons (.lit 0) .nil)))) (.lit 1)) (.cmp .lt (.lit 256) (.app 83 (.cons (.var 11) (.cons (.lit 1) (.cons (.lit 0) .nil))))))) (.or (.and (.cmp .lt (.lit 2) (.var 3)) (.or (.cmp .lt (.app 83 (.cons (.var 11) (.cons (.lit 2) (.cons (.lit 0) .nil)))) (.lit 1)) (.cmp .lt (.lit 256) (.app 83 (.cons (.var 11) (.cons (.lit 2) (.cons (.lit 0) .nil))))))) (.or (.and (.cmp .lt (.lit 3) (.var 3)) (.or (.cmp .lt (.app 83 (.cons (.var 11) (.cons (.lit 3) (.cons (.lit 0) .nil)))) (.lit 1)) (.cmp .lt (.lit 256) (.app 83 (.cons (.var 11) (.cons (.lit 3) (.cons (.lit 0) .nil))))))) (.or (.and (.cmp .lt (.lit 4) (.var 3)) (.or (.cmp .lt (.app 83 (.cons (.var 11) (.cons (.lit 4) (.cons (.lit 0) .nil)))) (.lit 1)) (.cmp .lt (.lit 256) (.app 83 (.cons (.var 11) (.cons (.lit 4) (.cons (.lit 0) .nil))))))) (.or (.and (.cmp .lt (.lit 5) (.var 3)) (.or (.cmp .lt (.app 83 (.cons (.var 11) (.cons (.lit 5) (.cons (.lit 0) .nil)))) (.lit 1)) (.cmp .lt (.lit 256) (.app 83 (.cons (.var 11) (.cons (.lit 5) (.cons (.lit 0) .nil))))))) (.or (.and (.cmp .lt (.lit 6) (.var 3)) (.or (.cmp .lt (.app 83 (.cons (.var 11) (.cons (.lit 6) (.cons (.lit 0) .nil)))) (.lit 1)) (.cmp .lt (.lit 256) (.app 83 (.cons (.var 11) (.cons (.lit 6) (.cons (.lit 0) .nil))))))) (.and (.cmp .lt (.lit 7) (.var 3)) (.or (.cmp .lt (.app 83 (.cons (.var 11) (.cons (.lit 7) (.cons (.lit 0) .nil)))) (.lit 1)) (.cmp .lt (.lit 256) (.app 83 (.cons (.var 11) (.cons (.lit 7) (.cons (.lit 0) .nil))))))))))))))) (.and (.or (.cmp .eq (.var 4) (.lit 1)) (.or (.cmp .eq (.var 4) (.lit 2)) (.or (.cmp .eq (.var 4) (.lit 4)) (.or (.cmp .eq (.var 4) (.lit 8)) (.or (.cmp .eq (.var 4) (.lit 12)) (.cmp .eq (.var 4) (.lit 16))))))) (.and (.or (.cmp .eq (.var 5) (.lit 0)) (.cmp .eq (.var 5) (.var 1))) (.or (.cmp .eq (.var 6) (.lit 0)) (.cmp .eq (.var 6) (.var 2)))))))))))))) (.and (.cmp .le (.app 63 (.cons (.var 2) (.cons (.var 4) (.cons (.var 11) (.cons (.var 3) .nil))))) (.lit 524288)) (.cmp .le (.app 63 (.cons (.var 2) (.cons (.var 4) (.cons (.var 11) (.cons (.var 3) .nil))))) (.op .mul (.lit 8) (.var 7)))))
def aPy:List B:=aJ aBn++aPB
def aCw:B:=(.cmp .eq (.var 8) (.var 1))
def aNZ:List B:=aJ aCw++aPy
def aBx:B:=(.cmp .eq (.var 3) (.var 1))
def aQs:List B:=aJ aBx++aNZ
def aBK:B:=(.cmp .le (.lit 1) (.var 1))
def aOE:List B:=aJ aBK++aQs
def aBp:B:=(.cmp .le (.var 1) (.lit 4))
def aNu:List B:=aJ aBp++aOE
def aB8:B:=(.cmp .le (.lit 1) (.var 2))
def aNF:List B:=aJ aB8++aNu
def aCn:B:=(.cmp .le (.var 2) (.lit 4))
def aPG:List B:=aJ aCn++aNF
def aBW:B:=(.cmp .le (.lit 1) (.var 4))
def aP7:List B:=aJ aBW++aPG
def aCd:B:=(.cmp .le (.var 4) (.lit 16))
def aPS:List B:=aJ aCd++aP7
def aB9:B:=(.cmp .eq (.var 3) (.var 8))
def aKD:List B:=aJ aB9++aPS
def yF:B:=(.cmp .le (.lit 1) (.var 3))
def aLu:List B:=aJ yF++aKD
def yR:B:=(.cmp .le (.var 3) (.lit 4))
def aMF:List B:=aJ yR++aLu
def aAa:B:=(.cmp .le (.lit 1) (.var 8))
def aMN:List B:=aJ aAa++aMF
def xN:B:=(.cmp .le (.var 8) (.lit 4))
def aMn:List B:=aJ xN++aMN
def zV:B:=(.cmp .eq (.var 6) (.lit 0))
def aLz:List B:=aJ zV++aMn
theorem aMf:aVw Try.prog aLz = .ok (.tuple [(.agg []),(.bool (.lit true))]):=by kernel_rfl
end Go.Proofs.Ytdldallkeheciaa
set_option maxRecDepth 100000
namespace Go.Proofs.Ytdldallkeheciaa
open Go Go.RowKit Sx Wi Lk
def aSA (P:Program) (fs:List B):Res SV:=sQ P fs
def aKF:List B:=[]
def lE:B:=(.cmp .lt (.var 9) (.var 8))
def aTb:List B:=aJ lE++aKF
def aFd:B:=(.cmp .lt (.var 9) (.var 1))
def aUD:List B:=aJ aFd++aTb
def aFh:B:=(.cmp .lt (.var 9) (.var 3))
def aTp:List B:=aJ aFh++aUD
def aEC:B:=(.or (.cmp .eq (.var 5) (.lit 0)) (.cmp .lt (.var 9) (.var 5)))
def aUT:List B:=aJ aEC++aTp
def aFv:B:=(.cmp .le (.lit 1) (.app 83 (.cons (.var 12) (.cons (.var 9) (.cons (.lit 0) .nil)))))
def aVk:List B:=aJ aFv++aUT
def aEx:B:=(.cmp .le (.app 83 (.cons (.var 12) (.cons (.var 9) (.cons (.lit 0) .nil)))) (.lit 256))
def aUK:List B:=aJ aEx++aVk
def aFe:B:=(.cmp .lt (.app 82 (.cons (.var 10) (.cons (.var 9) (.cons (.lit 0) .nil)))) (.app 82 (.cons (.var 10) (.cons (.var 9) (.cons (.lit 1) .nil)))))
def aVB:List B:=aJ aFe++aUK
def aKu:SV:=(.agg [(.int .i64 (.op .add (.var 9) (.lit 1))),(.int .i64 (.var 9)),(.int .i64 (.var 10)),(.int .i64 (.var 10)),(.int .i64 (.var 11)),(.int .i64 (.var 11)),(.int .i64 (.var 12)),(.int .i64 (.var 12)),(.int .i64 (.var 13)),(.int .i64 (.var 13)),(.int .i64 (.var 14)),(.int .i64 (.var 14)),(.int .i64 (.var 15)),(.int .i64 (.var 15)),(.int .i64 (.var 16)),(.int .i64 (.var 16)),(.int .i64 (.app 92 (.cons (.var 17) (.cons (.var 9) (.cons (.app 60 (.cons (.app 82 (.cons (.var 10) (.cons (.var 9) (.cons (.lit 0) .nil)))) (.cons (.app 82 (.cons (.var 10) (.cons (.var 9) (.cons (.lit 1) .nil)))) (.cons (.app 83 (.cons (.var 12) (.cons (.var 9) (.cons (.lit 0) .nil)))) (.cons (.var 5) (.cons (.app 82 (.cons (.var 13) (.cons (.var 9) (.cons (.lit 0) .nil)))) (.cons (.app 82 (.cons (.var 13) (.cons (.var 9) (.cons (.lit 1) .nil)))) (.cons (.app 82 (.cons (.var 16) (.cons (.var 9) (.cons (.lit 0) .nil)))) .nil)))))))) (.cons (.app 61 (.cons (.app 82 (.cons (.var 10) (.cons (.var 9) (.cons (.lit 0) .nil)))) (.cons (.app 82 (.cons (.var 10) (.cons (.var 9) (.cons (.lit 1) .nil)))) (.cons (.app 83 (.cons (.var 12) (.cons (.var 9) (.cons (.lit 0) .nil)))) (.cons (.var 5) (.cons (.app 82 (.cons (.var 13) (.cons (.var 9) (.cons (.lit 0) .nil)))) (.cons (.app 82 (.cons (.var 13) (.cons (.var 9) (.cons (.lit 1) .nil)))) (.cons (.app 82 (.cons (.var 16) (.cons (.var 9) (.cons (.lit 0) .nil)))) .nil)))))))) (.cons (.app 62 (.cons (.app 82 (.cons (.var 10) (.cons (.var 9) (.cons (.lit 0) .nil)))) (.cons (.app 82 (.cons (.var 10) (.cons (.var 9) (.cons (.lit 1) .nil)))) (.cons (.app 83 (.cons (.var 12) (.cons (.var 9) (.cons (.lit 0) .nil)))) (.cons (.var 5) (.cons (.app 82 (.cons (.var 13) (.cons (.var 9) (.cons (.lit 0) .nil)))) (.cons (.app 82 (.cons (.var 13) (.cons (.var 9) (.cons (.lit 1) .nil)))) (.cons (.app 82 (.cons (.var 16) (.cons (.var 9) (.cons (.lit 0) .nil)))) .nil)))))))) .nil))))))),(.int .i64 (.var 17))])
def aN3:List B:=aJ (B.neg lE)++aKF
def aMo:SV:=(.tuple [(.agg [(.int .i64 (.var 10)),(.int .i64 (.var 9)),(.int .i64 (.var 11)),(.int .i64 (.var 10)),(.int .i64 (.var 12)),(.int .i64 (.var 11)),(.int .i64 (.var 13)),(.int .i64 (.var 12)),(.int .i64 (.var 14)),(.int .i64 (.var 13)),(.int .i64 (.var 15)),(.int .i64 (.var 14)),(.int .i64 (.var 16)),(.int .i64 (.var 15)),(.int .i64 (.var 17)),(.int .i64 (.app 65 (.cons (.var 9) (.cons (.var 11) (.cons (.var 12) (.cons (.var 5) (.cons (.var 15) (.cons (.var 8) (.cons (.var 8) .nil)))))))))]),(.bool (.lit true))])
theorem aUV:aSA Try.prog aVB = .ok aKu:=by kernel_rfl
theorem aOJ:aSA Try.prog aN3 = .ok aMo:=by kernel_rfl
end Go.Proofs.Ytdldallkeheciaa
namespace Go.Proofs.Ytdldallkeheciaa
open Go Go.RowKit Sx Wi Lk
section
variable {D S En nE IN m:Int}
theorem aHm:G 96 [m,0,0,0]=G 65 [D,S,En,nE,IN,m,0]:=by
 show Lc.enc (List.replicate m.toNat [0,0,0])=Lc.enc (fR 3 _ m.toNat (0:Int).toNat)
 rw[show (0:Int).toNat=0 from rfl,yX];rfl
theorem aRD {i:Nat} (hi:(i:Int)<m):
  G 92 [G 65 [D,S,En,nE,IN,m,i],i,G 60 [G 82 [D,i,0],G 82 [D,i,1],G 83 [S,i,0],nE,G 82 [En,i,0],G 82 [En,i,1],G 82 [IN,i,0]],G 61 [G 82 [D,i,0],G 82 [D,i,1],G 83 [S,i,0],nE,G 82 [En,i,0],G 82 [En,i,1],G 82 [IN,i,0]],G 62 [G 82 [D,i,0],G 82 [D,i,1],G 83 [S,i,0],nE,G 82 [En,i,0],G 82 [En,i,1],G 82 [IN,i,0]]]=G 65 [D,S,En,nE,IN,m,((i+1:Nat):Int)]:=by
 show Lc.enc ((Lc.dec (Lc.enc (fR 3 (fun (i:Nat)=>mX D S En nE IN i) m.toNat (i:Int).toNat))).set (i:Int).toNat (mX D S En nE IN i))=Lc.enc (fR 3 (fun (i:Nat)=>mX D S En nE IN i) m.toNat ((i+1:Nat):Int).toNat)
 rw[Lc.dec_enc,Int.toNat_natCast,Int.toNat_natCast]
 congr 1
 exact aAV 3 (fun (i:Nat)=>mX D S En nE IN i) m.toNat i (by omega)
theorem aVr {k:Nat} (hk:(k:Int)<m):(Lc.dec (G 65 [D,S,En,nE,IN,m,m])).getD (k:Int).toNat []=mX D S En nE IN k:=by
 show (Lc.dec (Lc.enc (fR 3 (fun (i:Nat)=>mX D S En nE IN i) m.toNat m.toNat))).getD _ _=_
 rw[Lc.dec_enc,aAI,Int.toNat_natCast,List.getD_eq_getElem?_getD,List.getElem?_map,List.getElem?_range (by omega)];rfl
theorem aE2 {k:Nat} (hk:(k:Int)<m) {q:Nat} {v:Int} (hv:(mX D S En nE IN k).getD q 0=v) (hb : -9223372036854775808≤v∧v≤9223372036854775807):G 83 [G 65 [D,S,En,nE,IN,m,m],k,q]=v:=by
 have e:G 83 [G 65 [D,S,En,nE,IN,m,m],k,q]=IntKind.i64.wrap (((Lc.dec (G 65 [D,S,En,nE,IN,m,m])).getD (k:Int).toNat []).getD (q:Int).toNat 0):=rfl
 rw[e,aVr hk,Int.toNat_natCast,hv]
 exact gN .i64 _ (show (-9223372036854775808:Int)≤_ from hb.1) (show _≤(9223372036854775807:Int)from hb.2)
def jE (D S En nE IN:Int) (k:Nat):List Int:=[G 82 [D,k,0],G 82 [D,k,1],G 83 [S,k,0],nE,G 82 [En,k,0],G 82 [En,k,1],G 82 [IN,k,0]]
theorem aLf {k:Nat} (hk:(k:Int)<m):G 83 [G 65 [D,S,En,nE,IN,m,m],k,0]=G 60 (jE D S En nE IN k)∧G 83 [G 65 [D,S,En,nE,IN,m,m],k,1]=G 61 (jE D S En nE IN k)∧G 83 [G 65 [D,S,En,nE,IN,m,m],k,2]=G 62 (jE D S En nE IN k):=by
 have b0:=aBQ (jE D S En nE IN k)
 have b1:=aCX (jE D S En nE IN k)
 have b2:=aBR (jE D S En nE IN k)
 exact⟨aE2 (q:=0) (v:=G 60 (jE D S En nE IN k)) hk rfl (by show -9223372036854775808≤aAn (jE D S En nE IN k)∧aAn (jE D S En nE IN k)≤9223372036854775807;omega),aE2 (q:=1) (v:=G 61 (jE D S En nE IN k)) hk rfl (by show -9223372036854775808≤aAo (jE D S En nE IN k)∧aAo (jE D S En nE IN k)≤9223372036854775807;omega),aE2 (q:=2) (v:=G 62 (jE D S En nE IN k)) hk rfl (by show -9223372036854775808≤aAj (jE D S En nE IN k)∧aAj (jE D S En nE IN k)≤9223372036854775807;omega)⟩
theorem aSu (hs:∀ k:Nat,(k:Int)<m→1≤qT S k 0∧qT S k 0≤256):eK S (G 65 [D,S,En,nE,IN,m,m]) m:=by
 intro k hk
 obtain⟨e0,e1,e2⟩:=aLf (D:=D) (S:=S) (En:=En) (nE:=nE) (IN:=IN) hk
 rw[e0,e1,e2]
 exact⟨aBQ (jE D S En nE IN k),aCX (jE D S En nE IN k),aBR (jE D S En nE IN k),hs k hk⟩
end
section
variable {S B nB bits C R nR L m:Int}
theorem aAy:G 96 [nR,0]=G 73 [S,B,nB,bits,C,R,nR,L,m,0]:=by
 show Lc.enc (List.replicate nR.toNat [0])=Lc.enc (fR 1 _ nR.toNat (0:Int).toNat)
 rw[show (0:Int).toNat=0 from rfl,yX];rfl
theorem aAS {j:Nat} (hj:(j:Int)<nR):G 92 [G 73 [S,B,nB,bits,C,R,nR,L,m,j],j,min (max (G 68 [m,bits,G 82 [C,j,0],G 82 [C,j,1],G 76 [S,B,nB,bits,nR,L,m,j,1*2 ^ m.toNat]]) (G 82 [R,j,0])) (G 82 [R,j,1])]=G 73 [S,B,nB,bits,C,R,nR,L,m,((j+1:Nat):Int)]:=by
 show Lc.enc ((Lc.dec (Lc.enc (fR 1 (fun (i:Nat)=>[oU S B nB bits C R nR L m i]) nR.toNat (j:Int).toNat))).set (j:Int).toNat [oU S B nB bits C R nR L m j])=Lc.enc (fR 1 (fun (i:Nat)=>[oU S B nB bits C R nR L m i]) nR.toNat ((j+1:Nat):Int).toNat)
 rw[Lc.dec_enc,Int.toNat_natCast,Int.toNat_natCast]
 congr 1
 exact aAV 1 (fun (i:Nat)=>[oU S B nB bits C R nR L m i]) nR.toNat j (by omega)
theorem aIy {j:Nat} (hj:(j:Int)<nR):G 82 [G 73 [S,B,nB,bits,C,R,nR,L,m,nR],j,0]=oU S B nB bits C R nR L m j:=by
 have e:G 82 [G 73 [S,B,nB,bits,C,R,nR,L,m,nR],j,0]=IntKind.i32.wrap (((Lc.dec (Lc.enc (fR 1 (fun (i:Nat)=>[oU S B nB bits C R nR L m i]) nR.toNat nR.toNat))).getD (j:Int).toNat []).getD (0:Int).toNat 0):=rfl
 have e2:((List.range nR.toNat).map fun (i:Nat)=>[oU S B nB bits C R nR L m i]).getD j []=[oU S B nB bits C R nR L m j]:=by
  rw[List.getD_eq_getElem?_getD,List.getElem?_map,List.getElem?_range (by omega)];rfl
 rw[e,Lc.dec_enc,aAI,Int.toNat_natCast,e2]
 show IntKind.i32.wrap (oU S B nB bits C R nR L m j)=_
 have b0:=yA R j 0
 have b1:=yA R j 1
 refine gN .i32 _ (show (-2147483648:Int)≤_ from ?_) (show _≤(2147483647:Int)from ?_)<;>(unfold oU;omega)
theorem p16 {m:Int} (h:1≤m∧m≤4):(65536:Int) ^ m.toNat=1*2 ^ (16*m).toNat:=by
 have:m=1∨m=2∨m=3∨m=4:=by omega
 rcases this with rfl|rfl|rfl|rfl<;>decide
theorem aGr (h:eK S L m) (hm:0≤m∧m≤4) (hb:1≤bits∧bits≤16) (j:Int):0≤G 76 [S,B,nB,bits,nR,L,m,j,1*2 ^ m.toNat]∧G 76 [S,B,nB,bits,nR,L,m,j,1*2 ^ m.toNat]≤(1*2 ^ bits.toNat-1)*65536 ^ m.toNat:=by
 have h16:=aKG hm
 have e:(1:Int)*2 ^ m.toNat=((2 ^ m.toNat:Nat):Int):=by rw[Int.one_mul,Int.natCast_pow];rfl
 rw[e]at h16
 rw[e,g76 h hm (by omega)]
 have hw:∀ i,i<m.toNat→0≤(pA S L).w i∧(pA S L).w i≤65536:=fun i hi=>(h i (by omega)).2.2.1
 have a:=aF1 (pA S L) hw (r:=fun _=>0) (s:=fun a=>qU B nB ((a*nR+j)*bits) bits) (fun a=>(aCF _ _ _ _).1) (2 ^ m.toNat)
 have b:=aF1 (pA S L) hw (r:=fun a=>qU B nB ((a*nR+j)*bits) bits) (s:=fun _=>1*2 ^ bits.toNat-1) (fun a=>aVa hb) (2 ^ m.toNat)
 rw[aDl]at a b
 rw[Int.mul_zero]at a
 rw[Int.mul_comm]at b
 exact⟨a,b⟩
end
end Go.Proofs.Ytdldallkeheciaa
namespace Go.Proofs.Ytdldallkeheciaa
open Go Go.RowKit Sx Wi Lk
def eM (x0 x1 x2 x3 x4 x5 x6 x7 x8 l0 l1 l2 l3 l4 l5 l6:Int) (i:Nat):Nat→Int:=cQ ([x0,x1,x2,x3,x4,x5,x6,x7,x8,(i:Int)]++[l0,l1,l2,l3,l4,l5,l6,G 65 [l0,l2,l3,x5,l6,x8,(i:Int)]])
theorem aGU (x0 x1 x2 x3 x4 x5 x6 x7 x8 l0 l1 l2 l3 l4 l5 l6:Int) (b0:0≤x0∧x0≤255) (b1:1≤x1∧x1≤4) (b2:1≤x2∧x2≤4) (b3:1≤x3∧x3≤4) (b4:1≤x4∧x4≤16) (b5:0≤x5∧x5≤8) (b6:0≤x6∧x6≤8) (b7:0≤x7∧x7≤70000) (b8:1≤x8∧x8≤4) (i:Nat) (hi:(i:Int)≤x8):∀ k q,tH[k]?=some q→q.1≤eM x0 x1 x2 x3 x4 x5 x6 x7 x8 l0 l1 l2 l3 l4 l5 l6 i k∧eM x0 x1 x2 x3 x4 x5 x6 x7 x8 l0 l1 l2 l3 l4 l5 l6 i k≤q.2:=by
 unfold eM tH
 exact bP (xs:=[x0,x1,x2,x3,x4,x5,x6,x7,x8,(i:Int)]) (by exact⟨b0,b1,b2,b3,b4,b5,b6,b7,b8,by omega,trivial⟩)
set_option maxHeartbeats 4000000 in
set_option maxRecDepth 100000 in
theorem aMv (x0 x1 x2 x3 x4 x5 x6 x7 x8 l0 l1 l2 l3 l4 l5 l6:Int) (b0:0≤x0∧x0≤255) (b1:1≤x1∧x1≤4) (b2:1≤x2∧x2≤4) (b3:1≤x3∧x3≤4) (b4:1≤x4∧x4≤16) (b5:0≤x5∧x5≤8) (b6:0≤x6∧x6≤8) (b7:0≤x7∧x7≤70000) (b8:1≤x8∧x8≤4) (tb:oR x0 x1 x2 x3 x4 x5 x6 l0 l1 l2) (e8:x8=x1) (i:Nat) (hi:(i:Int)≤x8):Sx.Way (sQ Try.prog) G (eM x0 x1 x2 x3 x4 x5 x6 x7 x8 l0 l1 l2 l3 l4 l5 l6 i) (cM G (eM x0 x1 x2 x3 x4 x5 x6 x7 x8 l0 l1 l2 l3 l4 l5 l6) (cQ ([x0,x1,x2,x3,x4,x5,x6,x7,x8]++[l0,l1,l2,l3,l4,l5,l6])) 9 (.lit true) (fun i=>(i:Int)≤x8) (fun i=>x8.toNat-i) i) []:=by
 refine aG lE (fun h0=>?_) (fun h0=>?_)
 rotate_left
 ·skip
  refine aH aOJ ?_
  unfold lE at h0;unfold aMo;simp only[nn,eM,List.cons_append,List.nil_append,Bool.or_eq_true,aP,ne_eq]at h0;have he:(i:Int)=x8:=(by omega);clear h0;simp only[cM];refine⟨rfl,(fun k hk=>by (match k,hk with|0,_=>rfl|1,_=>rfl|2,_=>rfl|3,_=>rfl|4,_=>rfl|5,_=>rfl|6,_=>rfl|7,_=>rfl|8,_=>rfl)),?_⟩;simp only[aI];simp only[nn,eM,List.cons_append,List.nil_append,Bool.or_eq_true,aP,ne_eq];rw[he];(repeat' refine And.intro ?_ ?_)<;>first|with_reducible rfl|trivial
 refine aG aFd (fun h1=>?_) (fun h1=>?_)
 rotate_left
 ·skip
  refine aQ ?_
  unfold lE at h0;unfold aFd at h1;exfalso;have z:=h0;have z1:=h1;clear h0 h1;simp only[nn,eM,List.cons_append,List.nil_append,Bool.or_eq_true,aP,ne_eq]at z z1;obtain⟨_,t1,tD,t2,_,t3,tS,t4,t5,t6⟩:=tb;have u:1≤G 83 [l2,(i:Int),0]∧G 83 [l2,(i:Int),0]≤256:=tS i (by omega);have v:G 82 [l0,(i:Int),0]<G 82 [l0,(i:Int),1]:=tD i (by omega);clear tS tD;(try simp only[Bool.or_eq_false_iff,decide_eq_false_iff_not]at z1);generalize G 83 [l2,(i:Int),0]=c0 at *;generalize G 82 [l0,(i:Int),0]=c1 at *;generalize G 82 [l0,(i:Int),1]=c2 at *;omega
 refine aG aFh (fun h2=>?_) (fun h2=>?_)
 rotate_left
 ·skip
  refine aQ ?_
  unfold lE at h0;unfold aFh at h2;exfalso;have z:=h0;have z1:=h2;clear h0 h1 h2;simp only[nn,eM,List.cons_append,List.nil_append,Bool.or_eq_true,aP,ne_eq]at z z1;obtain⟨_,t1,tD,t2,_,t3,tS,t4,t5,t6⟩:=tb;have u:1≤G 83 [l2,(i:Int),0]∧G 83 [l2,(i:Int),0]≤256:=tS i (by omega);have v:G 82 [l0,(i:Int),0]<G 82 [l0,(i:Int),1]:=tD i (by omega);clear tS tD;(try simp only[Bool.or_eq_false_iff,decide_eq_false_iff_not]at z1);generalize G 83 [l2,(i:Int),0]=c0 at *;generalize G 82 [l0,(i:Int),0]=c1 at *;generalize G 82 [l0,(i:Int),1]=c2 at *;omega
 refine aG aEC (fun h3=>?_) (fun h3=>?_)
 rotate_left
 ·skip
  refine aQ ?_
  unfold lE at h0;unfold aEC at h3;exfalso;have z:=h0;have z1:=h3;clear h0 h1 h2 h3;simp only[nn,eM,List.cons_append,List.nil_append,Bool.or_eq_true,aP,ne_eq]at z z1;obtain⟨_,t1,tD,t2,_,t3,tS,t4,t5,t6⟩:=tb;have u:1≤G 83 [l2,(i:Int),0]∧G 83 [l2,(i:Int),0]≤256:=tS i (by omega);have v:G 82 [l0,(i:Int),0]<G 82 [l0,(i:Int),1]:=tD i (by omega);clear tS tD;(try simp only[Bool.or_eq_false_iff,decide_eq_false_iff_not]at z1);generalize G 83 [l2,(i:Int),0]=c0 at *;generalize G 82 [l0,(i:Int),0]=c1 at *;generalize G 82 [l0,(i:Int),1]=c2 at *;omega
 refine aG aFv (fun h4=>?_) (fun h4=>?_)
 rotate_left
 ·skip
  refine aQ ?_
  unfold lE at h0;unfold aFv at h4;exfalso;have z:=h0;have z1:=h4;clear h0 h1 h2 h3 h4;simp only[nn,eM,List.cons_append,List.nil_append,Bool.or_eq_true,aP,ne_eq]at z z1;obtain⟨_,t1,tD,t2,_,t3,tS,t4,t5,t6⟩:=tb;have u:1≤G 83 [l2,(i:Int),0]∧G 83 [l2,(i:Int),0]≤256:=tS i (by omega);have v:G 82 [l0,(i:Int),0]<G 82 [l0,(i:Int),1]:=tD i (by omega);clear tS tD;(try simp only[Bool.or_eq_false_iff,decide_eq_false_iff_not]at z1);generalize G 83 [l2,(i:Int),0]=c0 at *;generalize G 82 [l0,(i:Int),0]=c1 at *;generalize G 82 [l0,(i:Int),1]=c2 at *;omega
 refine aG aEx (fun h5=>?_) (fun h5=>?_)
 rotate_left
 ·skip
  refine aQ ?_
  unfold lE at h0;unfold aEx at h5;exfalso;have z:=h0;have z1:=h5;clear h0 h1 h2 h3 h4 h5;simp only[nn,eM,List.cons_append,List.nil_append,Bool.or_eq_true,aP,ne_eq]at z z1;obtain⟨_,t1,tD,t2,_,t3,tS,t4,t5,t6⟩:=tb;have u:1≤G 83 [l2,(i:Int),0]∧G 83 [l2,(i:Int),0]≤256:=tS i (by omega);have v:G 82 [l0,(i:Int),0]<G 82 [l0,(i:Int),1]:=tD i (by omega);clear tS tD;(try simp only[Bool.or_eq_false_iff,decide_eq_false_iff_not]at z1);generalize G 83 [l2,(i:Int),0]=c0 at *;generalize G 82 [l0,(i:Int),0]=c1 at *;generalize G 82 [l0,(i:Int),1]=c2 at *;omega
 refine aG aFe (fun h6=>?_) (fun h6=>?_)
 ·skip
  refine aH aUV ?_
  unfold lE at h0;unfold aKu;have z:=h0;clear h0 h1 h2 h3 h4 h5 h6;simp only[nn,eM,List.cons_append,List.nil_append,Bool.or_eq_true,aP,ne_eq]at z;have key:=aRD (D:=l0) (S:=l2) (En:=l3) (nE:=x5) (IN:=l6) z;have hm:x8.toNat-(i+1)<x8.toNat-i:=(by omega);have hg:((i+1:Nat):Int)≤x8:=(by omega);clear z;simp only[cM];refine⟨i+1,hg,hm,(fun k hk=>by (match k,hk with|0,_=>rfl|1,_=>rfl|2,_=>rfl|3,_=>rfl|4,_=>rfl|5,_=>rfl|6,_=>rfl|7,_=>rfl|8,_=>rfl)),?_⟩;simp only[aI];simp only[nn,eM,List.cons_append,List.nil_append,Bool.or_eq_true,aP,ne_eq];rw[key];(repeat' refine And.intro ?_ ?_)<;>first|with_reducible rfl|trivial|omega
 refine aQ ?_
 unfold lE at h0;unfold aFe at h6;exfalso;have z:=h0;have z1:=h6;clear h0 h1 h2 h3 h4 h5 h6;simp only[nn,eM,List.cons_append,List.nil_append,Bool.or_eq_true,aP,ne_eq]at z z1;obtain⟨_,t1,tD,t2,_,t3,tS,t4,t5,t6⟩:=tb;have u:1≤G 83 [l2,(i:Int),0]∧G 83 [l2,(i:Int),0]≤256:=tS i (by omega);have v:G 82 [l0,(i:Int),0]<G 82 [l0,(i:Int),1]:=tD i (by omega);clear tS tD;(try simp only[Bool.or_eq_false_iff,decide_eq_false_iff_not]at z1);generalize G 83 [l2,(i:Int),0]=c0 at *;generalize G 82 [l0,(i:Int),0]=c1 at *;generalize G 82 [l0,(i:Int),1]=c2 at *;omega
end Go.Proofs.Ytdldallkeheciaa
set_option maxRecDepth 100000
namespace Go.Proofs.Ytdldallkeheciaa
open Go Go.RowKit Sx Wi Lk
def aIR (P:Program) (fs:List B):Res SV:=uO P fs
def aFR:List B:=[]
def qG:B:=(.cmp .lt (.var 9) (.var 2))
def aRY:List B:=aJ qG++aFR
def aCh:B:=(.cmp .eq (.var 3) (.var 8))
def aRT:List B:=aJ aCh++aRY
def aBb:B:=(gdB (.var 12) (.app 65 (.cons (.var 10) (.cons (.var 12) (.cons (.var 13) (.cons (.var 5) (.cons (.var 16) (.cons (.var 8) (.cons (.var 8) .nil)))))))) (.var 3))
def aPq:List B:=aJ aBb++aRT
def aBc:B:=(.and (.cmp .le (.app 76 (.cons (.var 12) (.cons (.var 15) (.cons (.var 7) (.cons (.var 4) (.cons (.var 2) (.cons (.app 65 (.cons (.var 10) (.cons (.var 12) (.cons (.var 13) (.cons (.var 5) (.cons (.var 16) (.cons (.var 8) (.cons (.var 8) .nil)))))))) (.cons (.var 3) (.cons (.var 9) (.cons (.op .shl (.lit 1) (.var 3)) .nil)))))))))) (.op .mul (.op .sub (.op .shl (.lit 1) (.var 4)) (.lit 1)) (.op .shl (.lit 1) (.op .mul (.lit 16) (.var 3))))) (.cmp .le (.lit 0) (.app 76 (.cons (.var 12) (.cons (.var 15) (.cons (.var 7) (.cons (.var 4) (.cons (.var 2) (.cons (.app 65 (.cons (.var 10) (.cons (.var 12) (.cons (.var 13) (.cons (.var 5) (.cons (.var 16) (.cons (.var 8) (.cons (.var 8) .nil)))))))) (.cons (.var 3) (.cons (.var 9) (.cons (.op .shl (.lit 1) (.var 3)) .nil))))))))))))
def aM0:List B:=aJ aBc++aPq
def aGn:SV:=(.agg [(.int .i64 (.op .add (.var 9) (.lit 1))),(.int .i64 (.var 9)),(.int .i64 (.var 10)),(.int .i64 (.var 10)),(.int .i64 (.var 11)),(.int .i64 (.var 11)),(.int .i64 (.var 12)),(.int .i64 (.var 12)),(.int .i64 (.var 13)),(.int .i64 (.var 13)),(.int .i64 (.var 14)),(.int .i64 (.var 14)),(.int .i64 (.var 15)),(.int .i64 (.var 15)),(.int .i64 (.var 16)),(.int .i64 (.var 16)),(.int .i64 (.app 65 (.cons (.var 10) (.cons (.var 12) (.cons (.var 13) (.cons (.var 5) (.cons (.var 16) (.cons (.var 8) (.cons (.var 8) .nil))))))))),(.int .i64 (.app 65 (.cons (.var 10) (.cons (.var 12) (.cons (.var 13) (.cons (.var 5) (.cons (.var 16) (.cons (.var 8) (.cons (.var 8) .nil))))))))),(.int .i64 (.app 92 (.cons (.var 17) (.cons (.var 9) (.cons (.op .min (.op .max (.app 68 (.cons (.var 3) (.cons (.var 4) (.cons (.app 82 (.cons (.var 11) (.cons (.var 9) (.cons (.lit 0) .nil)))) (.cons (.app 82 (.cons (.var 11) (.cons (.var 9) (.cons (.lit 1) .nil)))) (.cons (.app 76 (.cons (.var 12) (.cons (.var 15) (.cons (.var 7) (.cons (.var 4) (.cons (.var 2) (.cons (.app 65 (.cons (.var 10) (.cons (.var 12) (.cons (.var 13) (.cons (.var 5) (.cons (.var 16) (.cons (.var 8) (.cons (.var 8) .nil)))))))) (.cons (.var 3) (.cons (.var 9) (.cons (.op .shl (.lit 1) (.var 3)) .nil)))))))))) .nil)))))) (.app 82 (.cons (.var 11) (.cons (.var 9) (.cons (.lit 0) .nil))))) (.app 82 (.cons (.var 11) (.cons (.var 9) (.cons (.lit 1) .nil))))) .nil))))),(.int .i64 (.var 17))])
def aQO:List B:=aJ (B.neg qG)++aFR
def aGq:SV:=(.tuple [(.agg [(.int .i64 (.var 10)),(.int .i64 (.var 9)),(.int .i64 (.var 11)),(.int .i64 (.var 10)),(.int .i64 (.var 12)),(.int .i64 (.var 11)),(.int .i64 (.var 13)),(.int .i64 (.var 12)),(.int .i64 (.var 14)),(.int .i64 (.var 13)),(.int .i64 (.var 15)),(.int .i64 (.var 14)),(.int .i64 (.var 16)),(.int .i64 (.var 15)),(.int .i64 (.app 65 (.cons (.var 10) (.cons (.var 12) (.cons (.var 13) (.cons (.var 5) (.cons (.var 16) (.cons (.var 8) (.cons (.var 8) .nil))))))))),(.int .i64 (.app 65 (.cons (.var 9) (.cons (.var 11) (.cons (.var 12) (.cons (.var 5) (.cons (.var 15) (.cons (.var 8) (.cons (.var 8) .nil))))))))),(.int .i64 (.var 17)),(.int .i64 (.app 73 (.cons (.var 11) (.cons (.var 14) (.cons (.var 7) (.cons (.var 4) (.cons (.var 10) (.cons (.var 10) (.cons (.var 2) (.cons (.app 65 (.cons (.var 9) (.cons (.var 11) (.cons (.var 12) (.cons (.var 5) (.cons (.var 15) (.cons (.var 8) (.cons (.var 8) .nil)))))))) (.cons (.var 3) (.cons (.var 2) .nil))))))))))))]),(.bool (.lit true))])
theorem aQa:aIR Try.prog aM0 = .ok aGn:=by kernel_rfl
theorem aQ0:aIR Try.prog aQO = .ok aGq:=by kernel_rfl
end Go.Proofs.Ytdldallkeheciaa
namespace Go.Proofs.Ytdldallkeheciaa
open Go Go.RowKit Sx Wi Lk
def eQ (x0 x1 x2 x3 x4 x5 x6 x7 x8 l0 l1 l2 l3 l4 l5 l6:Int) (j:Nat):Nat→Int:=cQ ([x0,x1,x2,x3,x4,x5,x6,x7,x8,(j:Int)]++[l0,l1,l2,l3,l4,l5,l6,G 73 [l2,l5,x7,x4,l1,l1,x2,(G 65 [l0,l2,l3,x5,l6,x8,x8]),x3,(j:Int)]])
theorem aK5 (x0 x1 x2 x3 x4 x5 x6 x7 x8 l0 l1 l2 l3 l4 l5 l6:Int) (b0:0≤x0∧x0≤255) (b1:1≤x1∧x1≤4) (b2:1≤x2∧x2≤4) (b3:1≤x3∧x3≤4) (b4:1≤x4∧x4≤16) (b5:0≤x5∧x5≤8) (b6:0≤x6∧x6≤8) (b7:0≤x7∧x7≤70000) (b8:1≤x8∧x8≤4) (j:Nat) (hj:(j:Int)≤x2):∀ k q,uK[k]?=some q→q.1≤eQ x0 x1 x2 x3 x4 x5 x6 x7 x8 l0 l1 l2 l3 l4 l5 l6 j k∧eQ x0 x1 x2 x3 x4 x5 x6 x7 x8 l0 l1 l2 l3 l4 l5 l6 j k≤q.2:=by
 unfold eQ uK
 exact bP (xs:=[x0,x1,x2,x3,x4,x5,x6,x7,x8,(j:Int)]) (by exact⟨b0,b1,b2,b3,b4,b5,b6,b7,b8,by omega,trivial⟩)
theorem aJi (x0 x1 x2 x3 x4 x5 x6 x7 x8 l0 l1 l2 l3 l4 l5 l6:Int) (tb:oR x0 x1 x2 x3 x4 x5 x6 l0 l1 l2) (e8:x8=x1):eK l2 (G 65 [l0,l2,l3,x5,l6,x8,x8]) x3:=by
 obtain⟨_,_,_,_,_,t3,tS,_⟩:=tb
 have e:x8=x3:=by omega
 rw[e]
 exact aSu tS
set_option maxHeartbeats 4000000 in
set_option maxRecDepth 100000 in
theorem aR5 (x0 x1 x2 x3 x4 x5 x6 x7 x8 l0 l1 l2 l3 l4 l5 l6:Int) (b0:0≤x0∧x0≤255) (b1:1≤x1∧x1≤4) (b2:1≤x2∧x2≤4) (b3:1≤x3∧x3≤4) (b4:1≤x4∧x4≤16) (b5:0≤x5∧x5≤8) (b6:0≤x6∧x6≤8) (b7:0≤x7∧x7≤70000) (b8:1≤x8∧x8≤4) (tb:oR x0 x1 x2 x3 x4 x5 x6 l0 l1 l2) (e8:x8=x1) (j:Nat) (hj:(j:Int)≤x2):Sx.Way (uO Try.prog) G (eQ x0 x1 x2 x3 x4 x5 x6 x7 x8 l0 l1 l2 l3 l4 l5 l6 j) (cM G (eQ x0 x1 x2 x3 x4 x5 x6 x7 x8 l0 l1 l2 l3 l4 l5 l6) (cQ ([x0,x1,x2,x3,x4,x5,x6,x7,x8]++[l0,l1,l2,l3,l4,l5,l6])) 9 (.lit true) (fun j=>(j:Int)≤x2) (fun j=>x2.toNat-j) j) []:=by
 have hr:=aJi x0 x1 x2 x3 x4 x5 x6 x7 x8 l0 l1 l2 l3 l4 l5 l6 tb e8
 have e3:x3=x8:=by have:=tb.2.2.2.2.2.1;omega
 clear tb
 refine aG qG (fun h0=>?_) (fun h0=>?_)
 rotate_left
 ·skip
  refine aH aQ0 ?_
  unfold qG at h0;unfold aGq;simp only[nn,eQ,List.cons_append,List.nil_append,Bool.or_eq_true,aP,ne_eq]at h0;have he:(j:Int)=x2:=(by omega);clear h0;simp only[cM];refine⟨rfl,(fun k hk=>by (match k,hk with|0,_=>rfl|1,_=>rfl|2,_=>rfl|3,_=>rfl|4,_=>rfl|5,_=>rfl|6,_=>rfl|7,_=>rfl|8,_=>rfl)),?_⟩;simp only[aI];simp only[nn,eQ,List.cons_append,List.nil_append,Bool.or_eq_true,aP,ne_eq];rw[he];(repeat' refine And.intro ?_ ?_)<;>first|with_reducible rfl|trivial
 refine aG aCh (fun h1=>?_) (fun h1=>?_)
 rotate_left
 ·skip
  refine aQ ?_
  unfold qG at h0;unfold aCh at h1;exfalso;have z:=h0;have z1:=h1;clear h0 h1;simp only[nn,eQ,List.cons_append,List.nil_append,Bool.or_eq_true,aP,ne_eq]at z z1;omega
 refine aG aBb (fun h2=>?_) (fun h2=>?_)
 rotate_left
 ·skip
  refine aQ ?_
  unfold aBb at h2;exfalso;have z:B.den G (eQ x0 x1 x2 x3 x4 x5 x6 x7 x8 l0 l1 l2 l3 l4 l5 l6 j) (gdB (.var 12) (.app 65 (.cons (.var 10) (.cons (.var 12) (.cons (.var 13) (.cons (.var 5) (.cons (.var 16) (.cons (.var 8) (.cons (.var 8) .nil)))))))) (.var 3))=true:=(tI (ρ:=eQ x0 x1 x2 x3 x4 x5 x6 x7 x8 l0 l1 l2 l3 l4 l5 l6 j) (S := .var 12) (L:=(.app 65 (.cons (.var 10) (.cons (.var 12) (.cons (.var 13) (.cons (.var 5) (.cons (.var 16) (.cons (.var 8) (.cons (.var 8) .nil))))))))) (m := .var 3) b3.2).2 hr;rw[h2]at z;cases z
 refine aG aBc (fun h3=>?_) (fun h3=>?_)
 ·skip
  refine aH aQa ?_
  unfold qG at h0;unfold aGn;have z:=h0;clear h0 h1 h2 h3;simp only[nn,eQ,List.cons_append,List.nil_append,Bool.or_eq_true,aP,ne_eq]at z;have key:=aAS (S:=l2) (B:=l5) (nB:=x7) (bits:=x4) (C:=l1) (R:=l1) (L:=(G 65 [l0,l2,l3,x5,l6,x8,x8])) (m:=x3) z;have hm:x2.toNat-(j+1)<x2.toNat-j:=(by omega);have hg:((j+1:Nat):Int)≤x2:=(by omega);clear z;simp only[cM];refine⟨j+1,hg,hm,(fun k hk=>by (match k,hk with|0,_=>rfl|1,_=>rfl|2,_=>rfl|3,_=>rfl|4,_=>rfl|5,_=>rfl|6,_=>rfl|7,_=>rfl|8,_=>rfl)),?_⟩;simp only[aI];simp only[nn,eQ,List.cons_append,List.nil_append,Bool.or_eq_true,aP,ne_eq];rw[key];(repeat' refine And.intro ?_ ?_)<;>first|with_reducible rfl|trivial|omega
 refine aQ ?_
 unfold aBc at h3;exfalso;obtain⟨s0,s1⟩:=aGr (B:=l5) (nB:=x7) (bits:=x4) (nR:=x2) hr ⟨by omega,b3.2⟩ b4 (j:Int);have e0:(65536:Int) ^ x3.toNat=1*2 ^ (16*x3).toNat:=p16 b3;rw[e0]at s1;clear h0 h1 h2;(try simp only[Bool.and_eq_false_iff]at h3);apply absurd h3;rw[Bool.not_eq_false];simp only[nn,eQ,List.cons_append,List.nil_append,Bool.or_eq_true,aP,ne_eq];exact⟨s1,s0⟩
set_option maxHeartbeats 4000000 in
set_option maxRecDepth 100000 in
theorem aHW (x0 x1 x2 x3 x4 x5 x6 x7 x8 l0 l1 l2 l3 l4 l5 l6:Int) (tb:oR x0 x1 x2 x3 x4 x5 x6 l0 l1 l2) (e8:x8=x1):gE Try.prog G (bN GB) (cN (bV Try.prog 11) 0) aFE (cQ ([x0,x1,x2,x3,x4,x5,x6,x7,x8]++[l0,l1,l2,l3,l4,l5,l6])):=by
 intro hw _
 have hb:eJ tH ([x0,x1,x2,x3,x4,x5,x6,x7,x8]++[0]):=hw
 unfold tH at hb
 simp only[List.cons_append,List.nil_append]at hb
 obtain⟨b0,b1,b2,b3,b4,b5,b6,b7,b8,_⟩:=hb
 have e:gC G (cQ ([x0,x1,x2,x3,x4,x5,x6,x7,x8]++[l0,l1,l2,l3,l4,l5,l6])) aFE.es=eM x0 x1 x2 x3 x4 x5 x6 x7 x8 l0 l1 l2 l3 l4 l5 l6 0:=by
  rw[eG]
  unfold eM
  rw[show ((0:Nat):Int)=0 from rfl,←aHm (D:=l0) (S:=l2) (En:=l3) (nE:=x5) (IN:=l6)]
  rfl
 rw[e]
 exact⟨x8.toNat+1,iV (ι:=Nat) (ρ:=eM x0 x1 x2 x3 x4 x5 x6 x7 x8 l0 l1 l2 l3 l4 l5 l6) (ρT:=(cQ ([x0,x1,x2,x3,x4,x5,x6,x7,x8]++[l0,l1,l2,l3,l4,l5,l6]))) (m:=fun j=>x8.toNat-j) (Good:=fun j=>(j:Int)≤x8) (run:=sQ Try.prog) (f:=11) (fun _=>rfl) fits rfl eU (fun j hj=>aGU x0 x1 x2 x3 x4 x5 x6 x7 x8 l0 l1 l2 l3 l4 l5 l6 b0 b1 b2 b3 b4 b5 b6 b7 b8 j hj) (fun _ _ X hX hG=>lK hX hG) (fun _ _ X hX hG=>cF) (fun j hj=>aMv x0 x1 x2 x3 x4 x5 x6 x7 x8 l0 l1 l2 l3 l4 l5 l6 b0 b1 b2 b3 b4 b5 b6 b7 b8 tb e8 j hj) (by decide) (fun x hx=>by rw[aDh]at hx;cases hx) _ 0 (by show ((0:Nat):Int)≤x8;omega) (by show x8.toNat-0<x8.toNat+1;omega)⟩
set_option maxHeartbeats 4000000 in
set_option maxRecDepth 100000 in
theorem aIl (x0 x1 x2 x3 x4 x5 x6 x7 x8 l0 l1 l2 l3 l4 l5 l6:Int) (tb:oR x0 x1 x2 x3 x4 x5 x6 l0 l1 l2) (e8:x8=x1):gE Try.prog G (bN GB) (cN (bV Try.prog 11) 1) aFy (cQ ([x0,x1,x2,x3,x4,x5,x6,x7,x8]++[l0,l1,l2,l3,l4,l5,l6])):=by
 intro hw _
 have hb:eJ uK ([x0,x1,x2,x3,x4,x5,x6,x7,x8]++[0]):=hw
 unfold uK at hb
 simp only[List.cons_append,List.nil_append]at hb
 obtain⟨b0,b1,b2,b3,b4,b5,b6,b7,b8,_⟩:=hb
 have e:gC G (cQ ([x0,x1,x2,x3,x4,x5,x6,x7,x8]++[l0,l1,l2,l3,l4,l5,l6])) aFy.es=eQ x0 x1 x2 x3 x4 x5 x6 x7 x8 l0 l1 l2 l3 l4 l5 l6 0:=by
  rw[eG]
  unfold eQ
  rw[show ((0:Nat):Int)=0 from rfl,←aAy (S:=l2) (B:=l5) (nB:=x7) (bits:=x4) (C:=l1) (R:=l1) (L:=G 65 [l0,l2,l3,x5,l6,x8,x8]) (m:=x3)]
  rfl
 rw[e]
 exact⟨x2.toNat+1,iV (ι:=Nat) (ρ:=eQ x0 x1 x2 x3 x4 x5 x6 x7 x8 l0 l1 l2 l3 l4 l5 l6) (ρT:=(cQ ([x0,x1,x2,x3,x4,x5,x6,x7,x8]++[l0,l1,l2,l3,l4,l5,l6]))) (m:=fun j=>x2.toNat-j) (Good:=fun j=>(j:Int)≤x2) (run:=uO Try.prog) (f:=11) (fun _=>rfl) fits rfl eU (fun j hj=>aK5 x0 x1 x2 x3 x4 x5 x6 x7 x8 l0 l1 l2 l3 l4 l5 l6 b0 b1 b2 b3 b4 b5 b6 b7 b8 j hj) (fun _ _ X hX hG=>lK hX hG) (fun _ _ X hX hG=>cF) (fun j hj=>aR5 x0 x1 x2 x3 x4 x5 x6 x7 x8 l0 l1 l2 l3 l4 l5 l6 b0 b1 b2 b3 b4 b5 b6 b7 b8 tb e8 j hj) (by decide) (fun x hx=>by rw[aDW]at hx;exact Option.mem_toList.1 hx) _ 0 (by show ((0:Nat):Int)≤x2;omega) (by show x2.toNat-0<x2.toNat+1;omega)⟩
set_option maxHeartbeats 8000000 in
set_option maxRecDepth 100000 in
theorem aQV (x0 x1 x2 x3 x4 x5 x6 x7 x8 l0 l1 l2 l3 l4 l5 l6:Int) (b0:0≤x0∧x0≤255) (b1:0≤x1∧x1≤8) (b2:0≤x2∧x2≤8) (b3:0≤x3∧x3≤8) (b4:(-9223372036854775808)≤x4∧x4≤9223372036854775807) (b5:0≤x5∧x5≤8) (b6:0≤x6∧x6≤8) (b7:0≤x7∧x7≤70000) (b8:0≤x8∧x8≤8) (hp:aB1.den G (cQ ([x0,x1,x2,x3,x4,x5,x6,x7,x8]++[l0,l1,l2,l3,l4,l5,l6]))=true):fX Try.prog G GB 11 aJD (cQ ([x0,x1,x2,x3,x4,x5,x6,x7,x8]++[l0,l1,l2,l3,l4,l5,l6])):=by
 have hq:=hp
 unfold aB1 at hq
 rw[aZ,aZ,Bool.and_eq_true,Bool.and_eq_true]at hq
 have tb:=mY (x0:=x0) (x1:=x1) (x2:=x2) (x3:=x3) (x4:=x4) (x5:=x5) (x6:=x6) (x7:=x7) (D:=l0) (R:=l1) (S:=l2) (ls:=[]) hq.1.1
 have hz:=hq.2
 simp only[nn,List.cons_append,List.nil_append,Bool.or_eq_true,aP,ne_eq]at hz
 obtain⟨e8,e60⟩:=hz
 refine cY (lp:=aKL) (run:=aGg Try.prog) (fun _=>rfl) fits (bP (xs:=[x0,x1,x2,x3,x4,x5,x6,x7,x8]) (ls:=[l0,l1,l2,l3,l4,l5,l6]) (by exact⟨b0,b1,b2,b3,b4,b5,b6,b7,b8,trivial⟩)) eU (fun X hX hG=>lK hX hG) (fun X hX hG fn c hf hc=>?_) rfl ?_
 ·refine kS ((congrArg bI (nG hf hc)).symm.trans aIx) ?_
  intro b hb
  simp only[List.mem_cons,List.mem_nil_iff,or_false]at hb
  rcases hb with rfl|rfl
  ·refine iX hX hG (by kernel_rfl) ?_
   intro p hp'
   simp only[List.mem_cons,List.mem_nil_iff,or_false]at hp'
   subst hp'
   exact aHW x0 x1 x2 x3 x4 x5 x6 x7 x8 l0 l1 l2 l3 l4 l5 l6 tb e8
  ·refine qO (j:=17) (by kernel_rfl) (by decide) (iX hX hG (by kernel_rfl) ?_)
   intro p hp'
   simp only[List.mem_cons,List.mem_nil_iff,or_false]at hp'
   subst hp'
   exact aIl x0 x1 x2 x3 x4 x5 x6 x7 x8 l0 l1 l2 l3 l4 l5 l6 tb e8
 ·skip
  refine aG aBn (fun h0=>?_) (fun h0=>?_)
  rotate_left
  ·skip
   refine aQ ?_
   unfold aBn at h0;exfalso;rw[aZ,hq.1.1,hq.1.2]at h0;cases h0
  refine aG aCw (fun h1=>?_) (fun h1=>?_)
  rotate_left
  ·skip
   refine aQ ?_
   unfold aCw at h1;exfalso;have z:=h1;clear h0 h1 hq hp;obtain⟨t0,t1,tD,t2,tR,t3,tS,t4,t5,t6⟩:=tb;clear tD tR tS;simp only[nn,List.cons_append,List.nil_append,Bool.or_eq_true,aP,ne_eq]at z;omega
  refine aG aBx (fun h2=>?_) (fun h2=>?_)
  rotate_left
  ·skip
   refine aQ ?_
   unfold aBx at h2;exfalso;have z:=h2;clear h0 h1 h2 hq hp;obtain⟨t0,t1,tD,t2,tR,t3,tS,t4,t5,t6⟩:=tb;clear tD tR tS;simp only[nn,List.cons_append,List.nil_append,Bool.or_eq_true,aP,ne_eq]at z;omega
  refine aG aBK (fun h3=>?_) (fun h3=>?_)
  rotate_left
  ·skip
   refine aQ ?_
   unfold aBK at h3;exfalso;have z:=h3;clear h0 h1 h2 h3 hq hp;obtain⟨t0,t1,tD,t2,tR,t3,tS,t4,t5,t6⟩:=tb;clear tD tR tS;simp only[nn,List.cons_append,List.nil_append,Bool.or_eq_true,aP,ne_eq]at z;omega
  refine aG aBp (fun h4=>?_) (fun h4=>?_)
  rotate_left
  ·skip
   refine aQ ?_
   unfold aBp at h4;exfalso;have z:=h4;clear h0 h1 h2 h3 h4 hq hp;obtain⟨t0,t1,tD,t2,tR,t3,tS,t4,t5,t6⟩:=tb;clear tD tR tS;simp only[nn,List.cons_append,List.nil_append,Bool.or_eq_true,aP,ne_eq]at z;omega
  refine aG aB8 (fun h5=>?_) (fun h5=>?_)
  rotate_left
  ·skip
   refine aQ ?_
   unfold aB8 at h5;exfalso;have z:=h5;clear h0 h1 h2 h3 h4 h5 hq hp;obtain⟨t0,t1,tD,t2,tR,t3,tS,t4,t5,t6⟩:=tb;clear tD tR tS;simp only[nn,List.cons_append,List.nil_append,Bool.or_eq_true,aP,ne_eq]at z;omega
  refine aG aCn (fun h6=>?_) (fun h6=>?_)
  rotate_left
  ·skip
   refine aQ ?_
   unfold aCn at h6;exfalso;have z:=h6;clear h0 h1 h2 h3 h4 h5 h6 hq hp;obtain⟨t0,t1,tD,t2,tR,t3,tS,t4,t5,t6⟩:=tb;clear tD tR tS;simp only[nn,List.cons_append,List.nil_append,Bool.or_eq_true,aP,ne_eq]at z;omega
  refine aG aBW (fun h7=>?_) (fun h7=>?_)
  rotate_left
  ·skip
   refine aQ ?_
   unfold aBW at h7;exfalso;have z:=h7;clear h0 h1 h2 h3 h4 h5 h6 h7 hq hp;obtain⟨t0,t1,tD,t2,tR,t3,tS,t4,t5,t6⟩:=tb;clear tD tR tS;simp only[nn,List.cons_append,List.nil_append,Bool.or_eq_true,aP,ne_eq]at z;omega
  refine aG aCd (fun h8=>?_) (fun h8=>?_)
  rotate_left
  ·skip
   refine aQ ?_
   unfold aCd at h8;exfalso;have z:=h8;clear h0 h1 h2 h3 h4 h5 h6 h7 h8 hq hp;obtain⟨t0,t1,tD,t2,tR,t3,tS,t4,t5,t6⟩:=tb;clear tD tR tS;simp only[nn,List.cons_append,List.nil_append,Bool.or_eq_true,aP,ne_eq]at z;omega
  refine aG aB9 (fun h9=>?_) (fun h9=>?_)
  rotate_left
  ·skip
   refine aQ ?_
   unfold aB9 at h9;exfalso;have z:=h9;clear h0 h1 h2 h3 h4 h5 h6 h7 h8 h9 hq hp;obtain⟨t0,t1,tD,t2,tR,t3,tS,t4,t5,t6⟩:=tb;clear tD tR tS;simp only[nn,List.cons_append,List.nil_append,Bool.or_eq_true,aP,ne_eq]at z;omega
  refine aG yF (fun h10=>?_) (fun h10=>?_)
  rotate_left
  ·skip
   refine aQ ?_
   unfold yF at h10;exfalso;have z:=h10;clear h0 h1 h2 h3 h4 h5 h6 h7 h8 h9 h10 hq hp;obtain⟨t0,t1,tD,t2,tR,t3,tS,t4,t5,t6⟩:=tb;clear tD tR tS;simp only[nn,List.cons_append,List.nil_append,Bool.or_eq_true,aP,ne_eq]at z;omega
  refine aG yR (fun h11=>?_) (fun h11=>?_)
  rotate_left
  ·skip
   refine aQ ?_
   unfold yR at h11;exfalso;have z:=h11;clear h0 h1 h2 h3 h4 h5 h6 h7 h8 h9 h10 h11 hq hp;obtain⟨t0,t1,tD,t2,tR,t3,tS,t4,t5,t6⟩:=tb;clear tD tR tS;simp only[nn,List.cons_append,List.nil_append,Bool.or_eq_true,aP,ne_eq]at z;omega
  refine aG aAa (fun h12=>?_) (fun h12=>?_)
  rotate_left
  ·skip
   refine aQ ?_
   unfold aAa at h12;exfalso;have z:=h12;clear h0 h1 h2 h3 h4 h5 h6 h7 h8 h9 h10 h11 h12 hq hp;obtain⟨t0,t1,tD,t2,tR,t3,tS,t4,t5,t6⟩:=tb;clear tD tR tS;simp only[nn,List.cons_append,List.nil_append,Bool.or_eq_true,aP,ne_eq]at z;omega
  refine aG xN (fun h13=>?_) (fun h13=>?_)
  rotate_left
  ·skip
   refine aQ ?_
   unfold xN at h13;exfalso;have z:=h13;clear h0 h1 h2 h3 h4 h5 h6 h7 h8 h9 h10 h11 h12 h13 hq hp;obtain⟨t0,t1,tD,t2,tR,t3,tS,t4,t5,t6⟩:=tb;clear tD tR tS;simp only[nn,List.cons_append,List.nil_append,Bool.or_eq_true,aP,ne_eq]at z;omega
  refine aG zV (fun h14=>?_) (fun h14=>?_)
  ·skip
   refine aH aMf ?_
   exact⟨rfl,trivial⟩
  refine aQ ?_
  unfold zV at h14;exfalso;have z:=h14;clear h0 h1 h2 h3 h4 h5 h6 h7 h8 h9 h10 h11 h12 h13 h14 hq hp;obtain⟨t0,t1,tD,t2,tR,t3,tS,t4,t5,t6⟩:=tb;clear tD tR tS;simp only[nn,List.cons_append,List.nil_append,Bool.or_eq_true,aP,ne_eq]at z;omega
def aAJ:Ctx→List SV→aM→Res (SV × aM):=dW GB [(0,255),(0,8),(0,8),(0,8),((-9223372036854775808),9223372036854775807),(0,8),(0,8),(0,70000),(0,8)] 7 aB1 aJD
theorem aTE {X:Ctx} {ρ:Nat→Int} (hX:X.Ok ρ) (hG:X.G=G):eV Try.prog X ρ GB 11 aAJ:=by
 obtain⟨XG,XI,XV,XF⟩:=X
 simp only at hG
 subst hG
 refine cU hX ?_
 intro xs ls hw hl hp
 obtain⟨x0,y0,e0,b0,h0⟩:=aY hw
 obtain⟨x1,y1,e1,b1,h1⟩:=aY h0
 obtain⟨x2,y2,e2,b2,h2⟩:=aY h1
 obtain⟨x3,y3,e3,b3,h3⟩:=aY h2
 obtain⟨x4,y4,e4,b4,h4⟩:=aY h3
 obtain⟨x5,y5,e5,b5,h5⟩:=aY h4
 obtain⟨x6,y6,e6,b6,h6⟩:=aY h5
 obtain⟨x7,y7,e7,b7,h7⟩:=aY h6
 obtain⟨x8,y8,e8,b8,h8⟩:=aY h7
 have e9:=jJ h8
 subst e9 e8 e7 e6 e5 e4 e3 e2 e1 e0
 obtain⟨l0,z0,q0,hl0⟩:=bJ hl
 obtain⟨l1,z1,q1,hl1⟩:=bJ hl0
 obtain⟨l2,z2,q2,hl2⟩:=bJ hl1
 obtain⟨l3,z3,q3,hl3⟩:=bJ hl2
 obtain⟨l4,z4,q4,hl4⟩:=bJ hl3
 obtain⟨l5,z5,q5,hl5⟩:=bJ hl4
 obtain⟨l6,z6,q6,hl6⟩:=bJ hl5
 have q7:=List.length_eq_zero_iff.1 hl6
 subst q7 q6 q5 q4 q3 q2 q1 q0
 exact aQV x0 x1 x2 x3 x4 x5 x6 x7 x8 l0 l1 l2 l3 l4 l5 l6 b0 b1 b2 b3 b4 b5 b6 b7 b8 hp
def aVE:St:=⟨[.any,.any,(.ptr 7 0),.any,.any,.any,.any,(.own 8 (.var 8) (some (.var 8))),.any,.any,(.own 4 (.var 6) none),(.ptr 10 0),.any,.any,.any,.any,.any,.any,.any,.any,.any,.any,.any,.any,.any,.any,.any,.any,.any,.any,.any,.any,.any,.any,.any,.any,.any,.any,.any,.any,.any,.any,.any,.any,.any,.any,.any,.any,.any,.any,.any,.any,.any,.any,.any,.any,.any,.any,.any,.any,(.own 1 (.var 2) none),(.int .i64 (.var 2)),(.int .i64 (.var 9)),.any,.any,.any,.any,.any,.any,.any,.any,.any,.any,.any,.any,.any,.any,.any,.any,.any,.any,.any,.any,.any,.any,.any,.any,.any,.any,.any,.any,.any,.any,.any,.any,.any,.any,.any,.any,.any,.any,.any,.any,.any,.any,.any,.any,.any,.any,.any,.any,.any,.any,.any,.any,.any,.any],[some ([.vec [.int .i32,.int .i32] (.var 10) (.var 1) true],aF),some ([.vec [.int .i32,.int .i32] (.var 11) (.var 2) true],aF),some ([.vec [.int .i64] (.var 12) (.var 3) true],aF),some ([.vec [.int .i32,.int .i32] (.var 13) (.var 5) true],aF),some ([.vec [.int .i32,.int .i32] (.var 14) (.var 6) true],aF),some ([.vec [.int .u8] (.var 15) (.var 7) true],aF),some ([.vec [.int .i32] (.var 16) (.var 8) true],aF),some ([.any,.any,.any,(.own 2 (.var 3) none),(.int .i64 (.var 4)),.any,.any,(.own 5 (.var 7) none),.any,.any,.any,.any,.any,.any],30),some ([.vec [.int .i64,.int .i64,.int .i64] (.app 65 (.cons (.var 10) (.cons (.var 12) (.cons (.var 13) (.cons (.var 5) (.cons (.var 16) (.cons (.var 8) (.cons (.var 8) .nil)))))))) (.var 3) true],aU+65),some ([.vec [.int .i32] (.var 17) (.var 2) true],aU+27),some ([(.own 9 (.var 2) (some (.var 2)))],26)]⟩
def aSR:St:=⟨[.any,.any,(.ptr 7 0),.any,.any,.any,.any,.any,.any,.any,.any,(.ptr 10 0),.any,.any,.any,.any,.any,.any,.any,.any,.any,.any,.any,.any,.any,.any,.any,.any,.any,.any,.any,.any,.any,.any,.any,.any,.any,.any,.any,.any,.any,.any,.any,.any,.any,.any,.any,.any,.any,.any,.any,.any,.any,.any,.any,.any,.any,.any,.any,.any,.any,.any,.any,.any,.any,.any,.any,.any,.any,.any,.any,.any,.any,.any,.any,.any,.any,.any,.any,.any,.any,.any,.any,.any,.any,.any,.any,.any,.any,.any,.any,.any,.any,.any,.any,.any,.any,.any,.any,.any,.any,.any,.any,.any,.any,.any,.any,.any,.any,.any,.any,.any,.any,.any,.any,.any,.any],[some ([.vec [.int .i32,.int .i32] (.var 9) (.var 1) true],aF),some ([.vec [.int .i32,.int .i32] (.var 10) (.var 2) true],aF),some ([.vec [.int .i64] (.var 11) (.var 3) true],aF),some ([.vec [.int .i32,.int .i32] (.var 12) (.var 5) true],aF),some ([.vec [.int .i32,.int .i32] (.var 13) (.var 6) true],aF),some ([.vec [.int .u8] (.var 14) (.var 7) true],aF),some ([.vec [.int .i32] (.var 15) (.var 8) true],aF),some ([.any,.any,.any,(.own 2 (.var 3) none),(.int .i64 (.var 4)),.any,.any,(.own 5 (.var 7) none),.any,.any,.any,.any,.any,.any],30),some ([.vec [.int .i64,.int .i64,.int .i64] (.app 65 (.cons (.var 9) (.cons (.var 11) (.cons (.var 12) (.cons (.var 5) (.cons (.var 15) (.cons (.var 8) (.cons (.var 8) .nil)))))))) (.var 3) true],aU+65),some ([.vec [.int .i32] (.app 73 (.cons (.var 11) (.cons (.var 14) (.cons (.var 7) (.cons (.var 4) (.cons (.var 13) (.cons (.var 10) (.cons (.var 2) (.cons (.app 65 (.cons (.var 9) (.cons (.var 11) (.cons (.var 12) (.cons (.var 5) (.cons (.var 15) (.cons (.var 8) (.cons (.var 8) .nil)))))))) (.cons (.var 3) (.cons (.var 2) .nil))))))))))) (.var 2) true],aU+27),some ([(.own 9 (.var 2) (some (.var 2)))],26)]⟩
def aSt:LoopS:=⟨9,11,aVE,.lit true,.exit 2,aSR,.exit 2,aSR⟩
def uM:List (Int × Int):=[(0,255),(1,4),(1,4),(1,4),(1,16),(0,8),(0,8),(0,70000),(1,4),(0,4)]
def uV (P:Program) (fs:List B):Res SV:=cA G GI uM fs fun X=>pP P X GB xT dO 4000 11 (cN (bV P 11) 1) aSt
def aEF:LoopU:=⟨aUl,[(.var 0),(.var 1),(.var 2),(.var 3),(.var 4),(.var 5),(.var 6),(.var 7),(.var 8),(.lit 0),(.var 9),(.var 10),(.var 11),(.var 12),(.var 13),(.var 14),(.var 15),(.app 96 (.cons (.var 8) (.cons (.lit 0) (.cons (.lit 0) (.cons (.lit 0) .nil)))))],tH,.lit true⟩
def aEE:LoopU:=⟨aSt,[(.var 0),(.var 1),(.var 2),(.var 3),(.var 4),(.var 5),(.var 6),(.var 7),(.var 8),(.lit 0),(.var 9),(.var 10),(.var 11),(.var 12),(.var 13),(.var 14),(.var 15),(.app 96 (.cons (.var 2) (.cons (.lit 0) .nil)))],uM,.lit true⟩
def aL8:fG:=jL 8 (fT (bN GB) [aEF]) (jL 17 (fT (bN GB) [aEE]) dO)
def aBi:B:=(.and (.and (.and (.cmp .eq (.var 0) (.lit 1)) (.and (.cmp .lt (.lit 0) (.var 1)) (.and (.cmp .le (.var 1) (.lit 4)) (.and (B.neg (.or (.and (.cmp .lt (.lit 0) (.var 1)) (.cmp .le (.app 82 (.cons (.var 9) (.cons (.lit 0) (.cons (.lit 1) .nil)))) (.app 82 (.cons (.var 9) (.cons (.lit 0) (.cons (.lit 0) .nil)))))) (.or (.and (.cmp .lt (.lit 1) (.var 1)) (.cmp .le (.app 82 (.cons (.var 9) (.cons (.lit 1) (.cons (.lit 1) .nil)))) (.app 82 (.cons (.var 9) (.cons (.lit 1) (.cons (.lit 0) .nil)))))) (.or (.and (.cmp .lt (.lit 2) (.var 1)) (.cmp .le (.app 82 (.cons (.var 9) (.cons (.lit 2) (.cons (.lit 1) .nil)))) (.app 82 (.cons (.var 9) (.cons (.lit 2) (.cons (.lit 0) .nil)))))) (.and (.cmp .lt (.lit 3) (.var 1)) (.cmp .le (.app 82 (.cons (.var 9) (.cons (.lit 3) (.cons (.lit 1) .nil)))) (.app 82 (.cons (.var 9) (.cons (.lit 3) (.cons (.lit 0) .nil)))))))))) (.and (.cmp .lt (.lit 0) (.var 2)) (.and (.cmp .le (.var 2) (.lit 4)) (.and (B.neg (.or (.and (.cmp .lt (.lit 0) (.var 2)) (.cmp .lt (.app 82 (.cons (.var 10) (.cons (.lit 0) (.cons (.lit 1) .nil)))) (.app 82 (.cons (.var 10) (.cons (.lit 0) (.cons (.lit 0) .nil)))))) (.or (.and (.cmp .lt (.lit 1) (.var 2)) (.cmp .lt (.app 82 (.cons (.var 10) (.cons (.lit 1) (.cons (.lit 1) .nil)))) (.app 82 (.cons (.var 10) (.cons (.lit 1) (.cons (.lit 0) .nil)))))) (.or (.and (.cmp .lt (.lit 2) (.var 2)) (.cmp .lt (.app 82 (.cons (.var 10) (.cons (.lit 2) (.cons (.lit 1) .nil)))) (.app 82 (.cons (.var 10) (.cons (.lit 2) (.cons (.lit 0) .nil)))))) (.and (.cmp .lt (.lit 3) (.var 2)) (.cmp .lt (.app 82 (.cons (.var 10) (.cons (.lit 3) (.cons (.lit 1) .nil)))) (.app 82 (.cons (.var 10) (.cons (.lit 3) (.cons (.lit 0) .nil)))))))))) (.and (.cmp .eq (.var 3) (.var 1)) (.and (B.neg (.or (.and (.cmp .lt (.lit 0) (.var 3)) (.or (.cmp .lt (.app 83 (.cons (.var 11) (.cons (.lit 0) (.cons (.lit 0) .nil)))) (.lit 1)) (.cmp .lt (.lit 256) (.app 83 (.cons (.var 11) (.cons (.lit 0) (.cons (.lit 0) .nil))))))) (.or (.and (.cmp .lt (.lit 1) (.var 3)) (.or (.cmp .lt (.app 83 (.cons (.var 11) (.cons (.lit 1) (.cons (.lit 0) .nil)))) (.lit 1)) (.cmp .lt (.lit 256) (.app 83 (.cons (.var 11) (.cons (.lit 1) (.cons (.lit 0) .nil))))))) (.or (.and (.cmp .lt (.lit 2) (.var 3)) (.or (.cmp .lt (.app 83 (.cons (.var 11) (.cons (.lit 2) (.cons (.lit 0) .nil)))) (.lit 1)) (.cmp .lt (.lit 256) (.app 83 (.cons (.var 11) (.cons (.lit 2) (.cons (.lit 0) .nil))))))) (.or (.and (.cmp .lt (.lit 3) (.var 3)) (.or (.cmp .lt (.app 83 (.cons (.var 11) (.cons (.lit 3) (.cons (.lit 0) .nil)))) (.lit 1)) (.cmp .lt (.lit 256) (.app 83 (.cons (.var 11) (.cons (.lit 3) (.cons (.lit 0) .nil))))))) (.or (.and (.cmp .lt (.lit 4) (.var 3)) (.or (.cmp .lt (.app 83 (.cons (.var 11) (.cons (.lit 4) (.cons (.lit 0) .nil)))) (.lit 1)) (.cmp .lt (.lit 256) (.app 83 (.cons (.var 11) (.cons (.lit 4) (.cons (.lit 0) .nil))))))) (.or (.and (.cmp .lt (.lit 5) (.var 3)) (.or (.cmp .lt (.app 83 (.cons (.var 11) (.cons (.lit 5) (.cons (.lit 0) .nil)))) (.lit 1)) (.cmp .lt (.lit 256) (.app 83 (.cons (.var 11) (.cons (.lit 5) (.cons (.lit 0) .nil))))))) (.or (.and (.cmp .lt (.lit 6) (.var 3)) (.or (.cmp .lt (.app 83 (.cons (.var 11) (.cons (.lit 6) (.cons (.lit 0) .nil)))) (.lit 1)) (.cmp .lt (.lit 256) (.app 83 (.cons (.var 11) (.cons (.lit 6) (.cons (.lit 0) .nil))))))) (.and (.cmp .lt (.lit 7) (.var 3)) (.or (.cmp .lt (.app 83 (.cons (.var 11) (.cons (.lit 7) (.cons (.lit 0) .nil)))) (.lit 1)) (.cmp .lt (.lit 256) (.app 83 (.cons (.var 11) (.cons (.lit 7) (.cons (.lit 0) .nil))))))))))))))) (.and (.or (.cmp .eq (.var 4) (.lit 1)) (.or (.cmp .eq (.var 4) (.lit 2)) (.or (.cmp .eq (.var 4) (.lit 4)) (.or (.cmp .eq (.var 4) (.lit 8)) (.or (.cmp .eq (.var 4) (.lit 12)) (.cmp .eq (.var 4) (.lit 16))))))) (.and (.or (.cmp .eq (.var 5) (.lit 0)) (.cmp .eq (.var 5) (.var 1))) (.or (.cmp .eq (.var 6) (.lit 0)) (.cmp .eq (.var 6) (.var 2)))))))))))))) (.and (.cmp .le (.app 63 (.cons (.var 2) (.cons (.var 4) (.cons (.var 11) (.cons (.var 3) .nil))))) (.lit 524288)) (.cmp .le (.app 63 (.cons (.var 2) (.cons (.var 4) (.cons (.var 11) (.cons (.var 3) .nil))))) (.op .mul (.lit 8) (.var 7))))) (.and (.cmp .eq (.var 8) (.var 1)) (.and (.cmp .eq (.var 6) (.var 2)) (.cmp .lt (.lit 0) (.var 6)))))
def aJB:FunS:=⟨[(.agg [(.int .u8 (.var 0)),(.own 0 (.var 1) none),(.own 1 (.var 2) none),(.own 2 (.var 3) none),(.int .i64 (.var 4)),(.own 3 (.var 5) none),(.own 4 (.var 6) none),(.own 5 (.var 7) none),.any,.any,.any,.any,.any,.any]),(.own 6 (.var 8) none)],[some ([.vec [.int .i32,.int .i32] (.var 9) (.var 1) true],aF),some ([.vec [.int .i32,.int .i32] (.var 10) (.var 2) true],aF),some ([.vec [.int .i64] (.var 11) (.var 3) true],aF),some ([.vec [.int .i32,.int .i32] (.var 12) (.var 5) true],aF),some ([.vec [.int .i32,.int .i32] (.var 13) (.var 6) true],aF),some ([.vec [.int .u8] (.var 14) (.var 7) true],aF),some ([.vec [.int .i32] (.var 15) (.var 8) true],aF)],.lit true,(.tuple [(.own 7 (.var 2) (some (.var 2))),(.int .i64 (.lit 0))]),[some ([.vec [.int .i32,.int .i32] (.var 9) (.var 1) true],aF),some ([.vec [.int .i32,.int .i32] (.var 10) (.var 2) true],aF),some ([.vec [.int .i64] (.var 11) (.var 3) true],aF),some ([.vec [.int .i32,.int .i32] (.var 12) (.var 5) true],aF),some ([.vec [.int .i32,.int .i32] (.var 13) (.var 6) true],aF),some ([.vec [.int .u8] (.var 14) (.var 7) true],aF),some ([.vec [.int .i32] (.var 15) (.var 8) true],aF),some ([.vec [.int .i32] (.app 73 (.cons (.var 11) (.cons (.var 14) (.cons (.var 7) (.cons (.var 4) (.cons (.var 13) (.cons (.var 10) (.cons (.var 2) (.cons (.app 65 (.cons (.var 9) (.cons (.var 11) (.cons (.var 12) (.cons (.var 5) (.cons (.var 15) (.cons (.var 8) (.cons (.var 8) .nil)))))))) (.cons (.var 3) (.cons (.var 2) .nil))))))))))) (.var 2) true],aU+27)],(.tuple [(.own 7 (.var 2) (some (.var 2))),(.int .i64 (.lit 0))]),[some ([.vec [.int .i32,.int .i32] (.var 9) (.var 1) true],aF),some ([.vec [.int .i32,.int .i32] (.var 10) (.var 2) true],aF),some ([.vec [.int .i64] (.var 11) (.var 3) true],aF),some ([.vec [.int .i32,.int .i32] (.var 12) (.var 5) true],aF),some ([.vec [.int .i32,.int .i32] (.var 13) (.var 6) true],aF),some ([.vec [.int .u8] (.var 14) (.var 7) true],aF),some ([.vec [.int .i32] (.var 15) (.var 8) true],aF),some ([.vec [.int .i32] (.app 73 (.cons (.var 11) (.cons (.var 14) (.cons (.var 7) (.cons (.var 4) (.cons (.var 13) (.cons (.var 10) (.cons (.var 2) (.cons (.app 65 (.cons (.var 9) (.cons (.var 11) (.cons (.var 12) (.cons (.var 5) (.cons (.var 15) (.cons (.var 8) (.cons (.var 8) .nil)))))))) (.cons (.var 3) (.cons (.var 2) .nil))))))))))) (.var 2) true],aU+27)]⟩
def aFW (P:Program) (fs:List B):Res SV:=cA G GI [(0,255),(0,8),(0,8),(0,8),((-9223372036854775808),9223372036854775807),(0,8),(0,8),(0,70000),(0,8)] fs fun X=>gJ P X GB xT aL8 4000 11 aJB
theorem aIk:bI (bV Try.prog 11)=[cN (bV Try.prog 11) 0,cN (bV Try.prog 11) 1]:=by kernel_rfl
theorem aDv:bD (cN (bV Try.prog 11) 0)=[]:=by kernel_rfl
theorem aDG:bD (cN (bV Try.prog 11) 1)=(bW Try.prog 11).toList:=by kernel_rfl
end Go.Proofs.Ytdldallkeheciaa
