/- What is proved: Eval of a table of any number of inputs: the run. No condition but the numbers' own bounds. -/
import Derived.Test.YtdldallkeheciaaQa8
import Derived.Test.YtdldallkeheciaaProg
import Derived.Test.YtdldallkeheciaaQNn
import Derived.Test.YtdldallkeheciaaQg4
set_option linter.unusedSimpArgs false
set_option linter.unusedVariables false
namespace Go.Proofs.Ytdldallkeheciaa
open Go Go.RowKit Sx Wi Lk
def aFF:LoopU:=⟨aUW,[(.var 0),(.var 1),(.var 2),(.var 3),(.var 4),(.var 5),(.var 6),(.var 7),(.var 8),(.lit 0),(.var 9),(.var 10),(.var 11),(.var 12),(.var 13),(.var 14),(.var 15),(.app 96 (.cons (.var 8) (.cons (.lit 0) (.cons (.lit 0) (.cons (.lit 0) .nil)))))],sW,.lit true⟩
def aFW:LoopU:=⟨aTh,[(.var 0),(.var 1),(.var 2),(.var 3),(.var 4),(.var 5),(.var 6),(.var 7),(.var 8),(.lit 0),(.var 9),(.var 10),(.var 11),(.var 12),(.var 13),(.var 14),(.var 15),(.app 96 (.cons (.var 2) (.cons (.lit 0) .nil)))],vD,.lit true⟩
def aNk:fH:=jM 8 (fS (bN GB) [aFF]) (jM 17 (fS (bN GB) [aFW]) dQ)
def aBT:B:=(.and (.and (.and (.cmp .eq (.var 0) (.lit 1)) (.and (.cmp .lt (.lit 0) (.var 1)) (.and (.cmp .le (.var 1) (.lit 4)) (.and (B.neg (.or (.and (.cmp .lt (.lit 0) (.var 1)) (.cmp .le (.app 82 (.cons (.var 9) (.cons (.lit 0) (.cons (.lit 1) .nil)))) (.app 82 (.cons (.var 9) (.cons (.lit 0) (.cons (.lit 0) .nil)))))) (.or (.and (.cmp .lt (.lit 1) (.var 1)) (.cmp .le (.app 82 (.cons (.var 9) (.cons (.lit 1) (.cons (.lit 1) .nil)))) (.app 82 (.cons (.var 9) (.cons (.lit 1) (.cons (.lit 0) .nil)))))) (.or (.and (.cmp .lt (.lit 2) (.var 1)) (.cmp .le (.app 82 (.cons (.var 9) (.cons (.lit 2) (.cons (.lit 1) .nil)))) (.app 82 (.cons (.var 9) (.cons (.lit 2) (.cons (.lit 0) .nil)))))) (.and (.cmp .lt (.lit 3) (.var 1)) (.cmp .le (.app 82 (.cons (.var 9) (.cons (.lit 3) (.cons (.lit 1) .nil)))) (.app 82 (.cons (.var 9) (.cons (.lit 3) (.cons (.lit 0) .nil)))))))))) (.and (.cmp .lt (.lit 0) (.var 2)) (.and (.cmp .le (.var 2) (.lit 4)) (.and (B.neg (.or (.and (.cmp .lt (.lit 0) (.var 2)) (.cmp .lt (.app 82 (.cons (.var 10) (.cons (.lit 0) (.cons (.lit 1) .nil)))) (.app 82 (.cons (.var 10) (.cons (.lit 0) (.cons (.lit 0) .nil)))))) (.or (.and (.cmp .lt (.lit 1) (.var 2)) (.cmp .lt (.app 82 (.cons (.var 10) (.cons (.lit 1) (.cons (.lit 1) .nil)))) (.app 82 (.cons (.var 10) (.cons (.lit 1) (.cons (.lit 0) .nil)))))) (.or (.and (.cmp .lt (.lit 2) (.var 2)) (.cmp .lt (.app 82 (.cons (.var 10) (.cons (.lit 2) (.cons (.lit 1) .nil)))) (.app 82 (.cons (.var 10) (.cons (.lit 2) (.cons (.lit 0) .nil)))))) (.and (.cmp .lt (.lit 3) (.var 2)) (.cmp .lt (.app 82 (.cons (.var 10) (.cons (.lit 3) (.cons (.lit 1) .nil)))) (.app 82 (.cons (.var 10) (.cons (.lit 3) (.cons (.lit 0) .nil)))))))))) (.and (.cmp .eq (.var 3) (.var 1)) (.and (B.neg (.or (.and (.cmp .lt (.lit 0) (.var 3)) (.or (.cmp .lt (.app 83 (.cons (.var 11) (.cons (.lit 0) (.cons (.lit 0) .nil)))) (.lit 1)) (.cmp .lt (.lit 256) (.app 83 (.cons (.var 11) (.cons (.lit 0) (.cons (.lit 0) .nil))))))) (.or (.and (.cmp .lt (.lit 1) (.var 3)) (.or (.cmp .lt (.app 83 (.cons (.var 11) (.cons (.lit 1) (.cons (.lit 0) .nil)))) (.lit 1)) (.cmp .lt (.lit 256) (.app 83 (.cons (.var 11) (.cons (.lit 1) (.cons (.lit 0) .nil))))))) (.or (.and (.cmp .lt (.lit 2) (.var 3)) (.or (.cmp .lt (.app 83 (.cons (.var 11) (.cons (.lit 2) (.cons (.lit 0) .nil)))) (.lit 1)) (.cmp .lt (.lit 256) (.app 83 (.cons (.var 11) (.cons (.lit 2) (.cons (.lit 0) .nil))))))) (.or (.and (.cmp .lt (.lit 3) (.var 3)) (.or (.cmp .lt (.app 83 (.cons (.var 11) (.cons (.lit 3) (.cons (.lit 0) .nil)))) (.lit 1)) (.cmp .lt (.lit 256) (.app 83 (.cons (.var 11) (.cons (.lit 3) (.cons (.lit 0) .nil))))))) (.or (.and (.cmp .lt (.lit 4) (.var 3)) (.or (.cmp .lt (.app 83 (.cons (.var 11) (.cons (.lit 4) (.cons (.lit 0) .nil)))) (.lit 1)) (.cmp .lt (.lit 256) (.app 83 (.cons (.var 11) (.cons (.lit 4) (.cons (.lit 0) .nil))))))) (.or (.and (.cmp .lt (.lit 5) (.var 3)) (.or (.cmp .lt (.app 83 (.cons (.var 11) (.cons (.lit 5) (.cons (.lit 0) .nil)))) (.lit 1)) (.cmp .lt (.lit 256) (.app 83 (.cons (.var 11) (.cons (.lit 5) (.cons (.lit 0) .nil))))))) (.or (.and (.cmp .lt (.lit 6) (.var 3)) (.or (.cmp .lt (.app 83 (.cons (.var 11) (.cons (.lit 6) (.cons (.lit 0) .nil)))) (.lit 1)) (.cmp .lt (.lit 256) (.app 83 (.cons (.var 11) (.cons (.lit 6) (.cons (.lit 0) .nil))))))) (.and (.cmp .lt (.lit 7) (.var 3)) (.or (.cmp .lt (.app 83 (.cons (.var 11) (.cons (.lit 7) (.cons (.lit 0) .nil)))) (.lit 1)) (.cmp .lt (.lit 256) (.app 83 (.cons (.var 11) (.cons (.lit 7) (.cons (.lit 0) .nil))))))))))))))) (.and (.or (.cmp .eq (.var 4) (.lit 1)) (.or (.cmp .eq (.var 4) (.lit 2)) (.or (.cmp .eq (.var 4) (.lit 4)) (.or (.cmp .eq (.var 4) (.lit 8)) (.or (.cmp .eq (.var 4) (.lit 12)) (.cmp .eq (.var 4) (.lit 16))))))) (.and (.or (.cmp .eq (.var 5) (.lit 0)) (.cmp .eq (.var 5) (.var 1))) (.or (.cmp .eq (.var 6) (.lit 0)) (.cmp .eq (.var 6) (.var 2)))))))))))))) (.and (.cmp .le (.app 63 (.cons (.var 2) (.cons (.var 4) (.cons (.var 11) (.cons (.var 3) .nil))))) (.lit 524288)) (.cmp .le (.app 63 (.cons (.var 2) (.cons (.var 4) (.cons (.var 11) (.cons (.var 3) .nil))))) (.op .mul (.lit 8) (.var 7))))) (.and (.cmp .eq (.var 8) (.var 1)) (.cmp .eq (.var 6) (.lit 0))))
def aK7:FunS:=⟨[(.agg [(.int .u8 (.var 0)),(.own 0 (.var 1) none),(.own 1 (.var 2) none),(.own 2 (.var 3) none),(.int .i64 (.var 4)),(.own 3 (.var 5) none),(.own 4 (.var 6) none),(.own 5 (.var 7) none),.any,.any,.any,.any,.any,.any]),(.own 6 (.var 8) none)],[some ([.vec [.int .i32,.int .i32] (.var 9) (.var 1) true],aF),some ([.vec [.int .i32,.int .i32] (.var 10) (.var 2) true],aF),some ([.vec [.int .i64] (.var 11) (.var 3) true],aF),some ([.vec [.int .i32,.int .i32] (.var 12) (.var 5) true],aF),some ([.vec [.int .i32,.int .i32] (.var 13) (.var 6) true],aF),some ([.vec [.int .u8] (.var 14) (.var 7) true],aF),some ([.vec [.int .i32] (.var 15) (.var 8) true],aF)],.lit true,(.tuple [(.own 7 (.var 2) (some (.var 2))),(.int .i64 (.lit 0))]),[some ([.vec [.int .i32,.int .i32] (.var 9) (.var 1) true],aF),some ([.vec [.int .i32,.int .i32] (.var 10) (.var 2) true],aF),some ([.vec [.int .i64] (.var 11) (.var 3) true],aF),some ([.vec [.int .i32,.int .i32] (.var 12) (.var 5) true],aF),some ([.vec [.int .i32,.int .i32] (.var 13) (.var 6) true],aF),some ([.vec [.int .u8] (.var 14) (.var 7) true],aF),some ([.vec [.int .i32] (.var 15) (.var 8) true],aF),some ([.vec [.int .i32] (.app 73 (.cons (.var 11) (.cons (.var 14) (.cons (.var 7) (.cons (.var 4) (.cons (.var 10) (.cons (.var 10) (.cons (.var 2) (.cons (.app 65 (.cons (.var 9) (.cons (.var 11) (.cons (.var 12) (.cons (.var 5) (.cons (.var 15) (.cons (.var 8) (.cons (.var 8) .nil)))))))) (.cons (.var 3) (.cons (.var 2) .nil))))))))))) (.var 2) true],aU+27)],(.tuple [(.own 7 (.var 2) (some (.var 2))),(.int .i64 (.lit 0))]),[some ([.vec [.int .i32,.int .i32] (.var 9) (.var 1) true],aF),some ([.vec [.int .i32,.int .i32] (.var 10) (.var 2) true],aF),some ([.vec [.int .i64] (.var 11) (.var 3) true],aF),some ([.vec [.int .i32,.int .i32] (.var 12) (.var 5) true],aF),some ([.vec [.int .i32,.int .i32] (.var 13) (.var 6) true],aF),some ([.vec [.int .u8] (.var 14) (.var 7) true],aF),some ([.vec [.int .i32] (.var 15) (.var 8) true],aF),some ([.vec [.int .i32] (.app 73 (.cons (.var 11) (.cons (.var 14) (.cons (.var 7) (.cons (.var 4) (.cons (.var 10) (.cons (.var 10) (.cons (.var 2) (.cons (.app 65 (.cons (.var 9) (.cons (.var 11) (.cons (.var 12) (.cons (.var 5) (.cons (.var 15) (.cons (.var 8) (.cons (.var 8) .nil)))))))) (.cons (.var 3) (.cons (.var 2) .nil))))))))))) (.var 2) true],aU+27)]⟩
def aF6 (P:Program) (fs:List B):Res SV:=cB G GI [(0,255),(0,8),(0,8),(0,8),((-9223372036854775808),9223372036854775807),(0,8),(0,8),(0,70000),(0,8)] fs fun X=>gJ P X GB zU aNk 4000 11 aK7
theorem aIv:bI (bW Try.prog 11)=[cN (bW Try.prog 11) 0,cN (bW Try.prog 11) 1]:=by kernel_rfl
theorem aEp:bD (cN (bW Try.prog 11) 0)=[]:=by kernel_rfl
theorem aD9:bD (cN (bW Try.prog 11) 1)=(bX Try.prog 11).toList:=by kernel_rfl
end Go.Proofs.Ytdldallkeheciaa
set_option maxRecDepth 100000
namespace Go.Proofs.Ytdldallkeheciaa
open Go Go.RowKit Sx Wi Lk
def aTN (P:Program) (fs:List B):Res SV:=aF6 P fs
def aQf:List B:=[]
def aBt:B:=(.and (.and (.cmp .eq (.var 0) (.lit 1)) (.and (.cmp .lt (.lit 0) (.var 1)) (.and (.cmp .le (.var 1) (.lit 4)) (.and (B.neg (.or (.and (.cmp .lt (.lit 0) (.var 1)) (.cmp .le (.app 82 (.cons (.var 9) (.cons (.lit 0) (.cons (.lit 1) .nil)))) (.app 82 (.cons (.var 9) (.cons (.lit 0) (.cons (.lit 0) .nil)))))) (.or (.and (.cmp .lt (.lit 1) (.var 1)) (.cmp .le (.app 82 (.cons (.var 9) (.cons (.lit 1) (.cons (.lit 1) .nil)))) (.app 82 (.cons (.var 9) (.cons (.lit 1) (.cons (.lit 0) .nil)))))) (.or (.and (.cmp .lt (.lit 2) (.var 1)) (.cmp .le (.app 82 (.cons (.var 9) (.cons (.lit 2) (.cons (.lit 1) .nil)))) (.app 82 (.cons (.var 9) (.cons (.lit 2) (.cons (.lit 0) .nil)))))) (.and (.cmp .lt (.lit 3) (.var 1)) (.cmp .le (.app 82 (.cons (.var 9) (.cons (.lit 3) (.cons (.lit 1) .nil)))) (.app 82 (.cons (.var 9) (.cons (.lit 3) (.cons (.lit 0) .nil)))))))))) (.and (.cmp .lt (.lit 0) (.var 2)) (.and (.cmp .le (.var 2) (.lit 4)) (.and (B.neg (.or (.and (.cmp .lt (.lit 0) (.var 2)) (.cmp .lt (.app 82 (.cons (.var 10) (.cons (.lit 0) (.cons (.lit 1) .nil)))) (.app 82 (.cons (.var 10) (.cons (.lit 0) (.cons (.lit 0) .nil)))))) (.or (.and (.cmp .lt (.lit 1) (.var 2)) (.cmp .lt (.app 82 (.cons (.var 10) (.cons (.lit 1) (.cons (.lit 1) .nil)))) (.app 82 (.cons (.var 10) (.cons (.lit 1) (.cons (.lit 0) .nil)))))) (.or (.and (.cmp .lt (.lit 2) (.var 2)) (.cmp .lt (.app 82 (.cons (.var 10) (.cons (.lit 2) (.cons (.lit 1) .nil)))) (.app 82 (.cons (.var 10) (.cons (.lit 2) (.cons (.lit 0) .nil)))))) (.and (.cmp .lt (.lit 3) (.var 2)) (.cmp .lt (.app 82 (.cons (.var 10) (.cons (.lit 3) (.cons (.lit 1) .nil)))) (.app 82 (.cons (.var 10) (.cons (.lit 3) (.cons (.lit 0) .nil)))))))))) (.and (.cmp .eq (.var 3) (.var 1)) (.and (B.neg (.or (.and (.cmp .lt (.lit 0) (.var 3)) (.or (.cmp .lt (.app 83 (.cons (.var 11) (.cons (.lit 0) (.cons (.lit 0) .nil)))) (.lit 1)) (.cmp .lt (.lit 256) (.app 83 (.cons (.var 11) (.cons (.lit 0) (.cons (.lit 0) .nil))))))) (.or (.and (.cmp .lt (.lit 1) (.var 3)) (.or (.cmp .lt (.app 83 (.cons (.var 11) (.cons (.lit 1) (.cons (.lit 0) .nil)))) (.lit 1)) (.cmp .lt (.lit 256) (.app 83 (.cons (.var 11) (.cons (.lit 1) (.cons (.lit 0) .nil))))))) (.or (.and (.cmp .lt (.lit 2) (.var 3)) (.or (.cmp .lt (.app 83 (.cons (.var 11) (.cons (.lit 2) (.cons (.lit 0) .nil)))) (.lit 1)) (.cmp .lt (.lit 256) (.app 83 (.cons (.var 11) (.cons (.lit 2) (.cons (.lit 0) .nil))))))) (.or (.and (.cmp .lt (.lit 3) (.var 3)) (.or (.cmp .lt (.app 83 (.cons (.var 11) (.cons (.lit 3) (.cons (.lit 0) .nil)))) (.lit 1)) (.cmp .lt (.lit 256) (.app 83 (.cons (.var 11) (.cons (.lit 3) (.cons (.lit 0) .nil))))))) (.or (.and (.cmp .lt (.lit 4) (.var 3)) (.or (.cmp .lt (.app 83 (.cons (.var 11) (.cons (.lit 4) (.cons (.lit 0) .nil)))) (.lit 1)) (.cmp .lt (.lit 256) (.app 83 (.cons (.var 11) (.cons (.lit 4) (.cons (.lit 0) .nil))))))) (.or (.and (.cmp .lt (.lit 5) (.var 3)) (.or (.cmp .lt (.app 83 (.cons (.var 11) (.cons (.lit 5) (.cons (.lit 0) .nil)))) (.lit 1)) (.cmp .lt (.lit 256) (.app 83 (.cons (.var 11) (.cons (.lit 5) (.cons (.lit 0) .nil))))))) (.or (.and (.cmp .lt (.lit 6) (.var 3)) (.or (.cmp .lt (.app 83 (.cons (.var 11) (.cons (.lit 6) (.cons (.lit 0) .nil)))) (.lit 1)) (.cmp .lt (.lit 256) (.app 83 (.cons (.var 11) (.cons (.lit 6) (.cons (.lit 0) .nil))))))) (.and (.cmp .lt (.lit 7) (.var 3)) (.or (.cmp .lt (.app 83 (.cons (.var 11) (.cons (.lit 7) (.cons (.lit 0) .nil)))) (.lit 1)) (.cmp .lt (.lit 256) (.app 83 (.cons (.var 11) (.cons (.lit 7) (.cons (.lit 0) .nil))))))))))))))) (.and (.or (.cmp .eq (.var 4) (.lit 1)) (.or (.cmp .eq (.var 4) (.lit 2)) (.or (.cmp .eq (.var 4) (.lit 4)) (.or (.cmp .eq (.var 4) (.lit 8)) (.or (.cmp .eq (.var 4) (.lit 12)) (.cmp .eq (.var 4) (.lit 16))))))) (.and (.or (.cmp .eq (.var 5) (.lit 0)) (.cmp .eq (.var 5) (.var 1))) (.or (.cmp .eq (.var 6) (.lit 0)) (.cmp .eq (.var 6) (.var 2)))))))))))))) (.and (.cmp .le (.app 63 (.cons (.var 2) (.cons (.var 4) (.cons (.var 11) (.cons (.var 3) .nil))))) (.lit 524288)) (.cmp .le (.app 63 (.cons (.var 2) (.cons (.var 4) (.cons (.var 11) (.cons (.var 3) .nil))))) (.op .mul (.lit 8) (.var 7)))))
def aSU:List B:=aJ aBt++aQf
def aCL:B:=(.cmp .eq (.var 8) (.var 1))
def aSn:List B:=aJ aCL++aSU
def aCF:B:=(.cmp .eq (.var 3) (.var 1))
def aOr:List B:=aJ aCF++aSn
def aC1:B:=(.cmp .le (.lit 1) (.var 1))
def aRD:List B:=aJ aC1++aOr
def aCG:B:=(.cmp .le (.var 1) (.lit 4))
def aPL:List B:=aJ aCG++aRD
def aDh:B:=(.cmp .le (.lit 1) (.var 2))
def aRF:List B:=aJ aDh++aPL
def aCf:B:=(.cmp .le (.var 2) (.lit 4))
def aNN:List B:=aJ aCf++aRF
def aBD:B:=(.cmp .le (.lit 1) (.var 4))
def aRg:List B:=aJ aBD++aNN
def aBy:B:=(.cmp .le (.var 4) (.lit 16))
def aRh:List B:=aJ aBy++aRg
def aBQ:B:=(.cmp .eq (.var 3) (.var 8))
def aJM:List B:=aJ aBQ++aRh
def yP:B:=(.cmp .le (.lit 1) (.var 3))
def aNv:List B:=aJ yP++aJM
def aAu:B:=(.cmp .le (.var 3) (.lit 4))
def aLh:List B:=aJ aAu++aNv
def xP:B:=(.cmp .le (.lit 1) (.var 8))
def aI7:List B:=aJ xP++aLh
def yC:B:=(.cmp .le (.var 8) (.lit 4))
def aLE:List B:=aJ yC++aI7
def aAa:B:=(.cmp .eq (.var 6) (.lit 0))
def aI6:List B:=aJ aAa++aLE
theorem aJK:aTN Try.prog aI6 = .ok (.tuple [(.agg []),(.bool (.lit true))]):=by kernel_rfl
end Go.Proofs.Ytdldallkeheciaa
set_option maxRecDepth 100000
namespace Go.Proofs.Ytdldallkeheciaa
open Go Go.RowKit Sx Wi Lk
def aTm (P:Program) (fs:List B):Res SV:=tJ P fs
def aMG:List B:=[]
def lH:B:=(.cmp .lt (.var 9) (.var 8))
def aVL:List B:=aJ lH++aMG
def aFV:B:=(.cmp .lt (.var 9) (.var 1))
def aV4:List B:=aJ aFV++aVL
def aFO:B:=(.cmp .lt (.var 9) (.var 3))
def aTI:List B:=aJ aFO++aV4
def aFX:B:=(.or (.cmp .eq (.var 5) (.lit 0)) (.cmp .lt (.var 9) (.var 5)))
def aUs:List B:=aJ aFX++aTI
def aFH:B:=(.cmp .le (.lit 1) (.app 83 (.cons (.var 12) (.cons (.var 9) (.cons (.lit 0) .nil)))))
def aTS:List B:=aJ aFH++aUs
def aFU:B:=(.cmp .le (.app 83 (.cons (.var 12) (.cons (.var 9) (.cons (.lit 0) .nil)))) (.lit 256))
def aUC:List B:=aJ aFU++aTS
def aFg:B:=(.cmp .lt (.app 82 (.cons (.var 10) (.cons (.var 9) (.cons (.lit 0) .nil)))) (.app 82 (.cons (.var 10) (.cons (.var 9) (.cons (.lit 1) .nil)))))
def aUu:List B:=aJ aFg++aUC
def aMs:SV:=(.agg [(.int .i64 (.op .add (.var 9) (.lit 1))),(.int .i64 (.var 9)),(.int .i64 (.var 10)),(.int .i64 (.var 10)),(.int .i64 (.var 11)),(.int .i64 (.var 11)),(.int .i64 (.var 12)),(.int .i64 (.var 12)),(.int .i64 (.var 13)),(.int .i64 (.var 13)),(.int .i64 (.var 14)),(.int .i64 (.var 14)),(.int .i64 (.var 15)),(.int .i64 (.var 15)),(.int .i64 (.var 16)),(.int .i64 (.var 16)),(.int .i64 (.app 92 (.cons (.var 17) (.cons (.var 9) (.cons (.app 60 (.cons (.app 82 (.cons (.var 10) (.cons (.var 9) (.cons (.lit 0) .nil)))) (.cons (.app 82 (.cons (.var 10) (.cons (.var 9) (.cons (.lit 1) .nil)))) (.cons (.app 83 (.cons (.var 12) (.cons (.var 9) (.cons (.lit 0) .nil)))) (.cons (.var 5) (.cons (.app 82 (.cons (.var 13) (.cons (.var 9) (.cons (.lit 0) .nil)))) (.cons (.app 82 (.cons (.var 13) (.cons (.var 9) (.cons (.lit 1) .nil)))) (.cons (.app 82 (.cons (.var 16) (.cons (.var 9) (.cons (.lit 0) .nil)))) .nil)))))))) (.cons (.app 61 (.cons (.app 82 (.cons (.var 10) (.cons (.var 9) (.cons (.lit 0) .nil)))) (.cons (.app 82 (.cons (.var 10) (.cons (.var 9) (.cons (.lit 1) .nil)))) (.cons (.app 83 (.cons (.var 12) (.cons (.var 9) (.cons (.lit 0) .nil)))) (.cons (.var 5) (.cons (.app 82 (.cons (.var 13) (.cons (.var 9) (.cons (.lit 0) .nil)))) (.cons (.app 82 (.cons (.var 13) (.cons (.var 9) (.cons (.lit 1) .nil)))) (.cons (.app 82 (.cons (.var 16) (.cons (.var 9) (.cons (.lit 0) .nil)))) .nil)))))))) (.cons (.app 62 (.cons (.app 82 (.cons (.var 10) (.cons (.var 9) (.cons (.lit 0) .nil)))) (.cons (.app 82 (.cons (.var 10) (.cons (.var 9) (.cons (.lit 1) .nil)))) (.cons (.app 83 (.cons (.var 12) (.cons (.var 9) (.cons (.lit 0) .nil)))) (.cons (.var 5) (.cons (.app 82 (.cons (.var 13) (.cons (.var 9) (.cons (.lit 0) .nil)))) (.cons (.app 82 (.cons (.var 13) (.cons (.var 9) (.cons (.lit 1) .nil)))) (.cons (.app 82 (.cons (.var 16) (.cons (.var 9) (.cons (.lit 0) .nil)))) .nil)))))))) .nil))))))),(.int .i64 (.var 17))])
def aQg:List B:=aJ (B.neg lH)++aMG
def aLt:SV:=(.tuple [(.agg [(.int .i64 (.var 10)),(.int .i64 (.var 9)),(.int .i64 (.var 11)),(.int .i64 (.var 10)),(.int .i64 (.var 12)),(.int .i64 (.var 11)),(.int .i64 (.var 13)),(.int .i64 (.var 12)),(.int .i64 (.var 14)),(.int .i64 (.var 13)),(.int .i64 (.var 15)),(.int .i64 (.var 14)),(.int .i64 (.var 16)),(.int .i64 (.var 15)),(.int .i64 (.var 17)),(.int .i64 (.app 65 (.cons (.var 9) (.cons (.var 11) (.cons (.var 12) (.cons (.var 5) (.cons (.var 15) (.cons (.var 8) (.cons (.var 8) .nil)))))))))]),(.bool (.lit true))])
theorem aUO:aTm Try.prog aUu = .ok aMs:=by kernel_rfl
theorem aRA:aTm Try.prog aQg = .ok aLt:=by kernel_rfl
end Go.Proofs.Ytdldallkeheciaa
namespace Go.Proofs.Ytdldallkeheciaa
open Go Go.RowKit Sx Wi Lk
section
variable {D S En nE IN m:Int}
theorem aGr:G 96 [m,0,0,0]=G 65 [D,S,En,nE,IN,m,0]:=by
 show Lc.enc (List.replicate m.toNat [0,0,0])=Lc.enc (gC 3 _ m.toNat (0:Int).toNat)
 rw[show (0:Int).toNat=0 from rfl,rT];rfl
theorem aOC {i:Nat} (hi:(i:Int)<m):
  G 92 [G 65 [D,S,En,nE,IN,m,i],i,G 60 [G 82 [D,i,0],G 82 [D,i,1],G 83 [S,i,0],nE,G 82 [En,i,0],G 82 [En,i,1],G 82 [IN,i,0]],G 61 [G 82 [D,i,0],G 82 [D,i,1],G 83 [S,i,0],nE,G 82 [En,i,0],G 82 [En,i,1],G 82 [IN,i,0]],G 62 [G 82 [D,i,0],G 82 [D,i,1],G 83 [S,i,0],nE,G 82 [En,i,0],G 82 [En,i,1],G 82 [IN,i,0]]]=G 65 [D,S,En,nE,IN,m,((i+1:Nat):Int)]:=by
 show Lc.enc ((Lc.dec (Lc.enc (gC 3 (fun (i:Nat)=>wK D S En nE IN i) m.toNat (i:Int).toNat))).set (i:Int).toNat (wK D S En nE IN i))=Lc.enc (gC 3 (fun (i:Nat)=>wK D S En nE IN i) m.toNat ((i+1:Nat):Int).toNat)
 rw[Lc.dec_enc,Int.toNat_natCast,Int.toNat_natCast]
 congr 1
 exact uM 3 (fun (i:Nat)=>wK D S En nE IN i) m.toNat i (by omega)
theorem aVQ {k:Nat} (hk:(k:Int)<m):(Lc.dec (G 65 [D,S,En,nE,IN,m,m])).getD (k:Int).toNat []=wK D S En nE IN k:=by
 show (Lc.dec (Lc.enc (gC 3 (fun (i:Nat)=>wK D S En nE IN i) m.toNat m.toNat))).getD _ _=_
 rw[Lc.dec_enc,uS,Int.toNat_natCast,List.getD_eq_getElem?_getD,List.getElem?_map,List.getElem?_range (by omega)];rfl
theorem aEM {k:Nat} (hk:(k:Int)<m) {q:Nat} {v:Int} (hv:(wK D S En nE IN k).getD q 0=v) (hb : -9223372036854775808≤v∧v≤9223372036854775807):G 83 [G 65 [D,S,En,nE,IN,m,m],k,q]=v:=by
 have e:G 83 [G 65 [D,S,En,nE,IN,m,m],k,q]=IntKind.i64.wrap (((Lc.dec (G 65 [D,S,En,nE,IN,m,m])).getD (k:Int).toNat []).getD (q:Int).toNat 0):=rfl
 rw[e,aVQ hk,Int.toNat_natCast,hv]
 exact iO .i64 _ (show (-9223372036854775808:Int)≤_ from hb.1) (show _≤(9223372036854775807:Int)from hb.2)
def jF (D S En nE IN:Int) (k:Nat):List Int:=[G 82 [D,k,0],G 82 [D,k,1],G 83 [S,k,0],nE,G 82 [En,k,0],G 82 [En,k,1],G 82 [IN,k,0]]
theorem aDW {k:Nat} (hk:(k:Int)<m):G 83 [G 65 [D,S,En,nE,IN,m,m],k,0]=G 60 (jF D S En nE IN k)∧G 83 [G 65 [D,S,En,nE,IN,m,m],k,1]=G 61 (jF D S En nE IN k)∧G 83 [G 65 [D,S,En,nE,IN,m,m],k,2]=G 62 (jF D S En nE IN k):=by
 have b0:=aCO (jF D S En nE IN k)
 have b1:=aCQ (jF D S En nE IN k)
 have b2:=aBI (jF D S En nE IN k)
 exact⟨aEM (q:=0) (v:=G 60 (jF D S En nE IN k)) hk rfl (by show -9223372036854775808≤aEH (jF D S En nE IN k)∧aEH (jF D S En nE IN k)≤9223372036854775807;omega),aEM (q:=1) (v:=G 61 (jF D S En nE IN k)) hk rfl (by show -9223372036854775808≤aEE (jF D S En nE IN k)∧aEE (jF D S En nE IN k)≤9223372036854775807;omega),aEM (q:=2) (v:=G 62 (jF D S En nE IN k)) hk rfl (by show -9223372036854775808≤aFT (jF D S En nE IN k)∧aFT (jF D S En nE IN k)≤9223372036854775807;omega)⟩
theorem aJs (hs:∀ k:Nat,(k:Int)<m→1≤kR S k 0∧kR S k 0≤256):dP S (G 65 [D,S,En,nE,IN,m,m]) m:=by
 intro k hk
 obtain⟨e0,e1,e2⟩:=aDW (D:=D) (S:=S) (En:=En) (nE:=nE) (IN:=IN) hk
 rw[e0,e1,e2]
 exact⟨aCO (jF D S En nE IN k),aCQ (jF D S En nE IN k),aBI (jF D S En nE IN k),hs k hk⟩
end
section
variable {S B nB bits C R nR L m:Int}
theorem aA1:G 96 [nR,0]=G 73 [S,B,nB,bits,C,R,nR,L,m,0]:=by
 show Lc.enc (List.replicate nR.toNat [0])=Lc.enc (gC 1 _ nR.toNat (0:Int).toNat)
 rw[show (0:Int).toNat=0 from rfl,rT];rfl
theorem aBb {j:Nat} (hj:(j:Int)<nR):G 92 [G 73 [S,B,nB,bits,C,R,nR,L,m,j],j,min (max (G 68 [m,bits,G 82 [C,j,0],G 82 [C,j,1],G 76 [S,B,nB,bits,nR,L,m,j,1*2 ^ m.toNat]]) (G 82 [R,j,0])) (G 82 [R,j,1])]=G 73 [S,B,nB,bits,C,R,nR,L,m,((j+1:Nat):Int)]:=by
 show Lc.enc ((Lc.dec (Lc.enc (gC 1 (fun (i:Nat)=>[oZ S B nB bits C R nR L m i]) nR.toNat (j:Int).toNat))).set (j:Int).toNat [oZ S B nB bits C R nR L m j])=Lc.enc (gC 1 (fun (i:Nat)=>[oZ S B nB bits C R nR L m i]) nR.toNat ((j+1:Nat):Int).toNat)
 rw[Lc.dec_enc,Int.toNat_natCast,Int.toNat_natCast]
 congr 1
 exact uM 1 (fun (i:Nat)=>[oZ S B nB bits C R nR L m i]) nR.toNat j (by omega)
theorem aIj {j:Nat} (hj:(j:Int)<nR):G 82 [G 73 [S,B,nB,bits,C,R,nR,L,m,nR],j,0]=oZ S B nB bits C R nR L m j:=by
 have e:G 82 [G 73 [S,B,nB,bits,C,R,nR,L,m,nR],j,0]=IntKind.i32.wrap (((Lc.dec (Lc.enc (gC 1 (fun (i:Nat)=>[oZ S B nB bits C R nR L m i]) nR.toNat nR.toNat))).getD (j:Int).toNat []).getD (0:Int).toNat 0):=rfl
 have e2:((List.range nR.toNat).map fun (i:Nat)=>[oZ S B nB bits C R nR L m i]).getD j []=[oZ S B nB bits C R nR L m j]:=by
  rw[List.getD_eq_getElem?_getD,List.getElem?_map,List.getElem?_range (by omega)];rfl
 rw[e,Lc.dec_enc,uS,Int.toNat_natCast,e2]
 show IntKind.i32.wrap (oZ S B nB bits C R nR L m j)=_
 have b0:=aCT R j 0
 have b1:=aCT R j 1
 refine iO .i32 _ (show (-2147483648:Int)≤_ from ?_) (show _≤(2147483647:Int)from ?_)<;>(unfold oZ;omega)
theorem p16 {m:Int} (h:1≤m∧m≤4):(65536:Int) ^ m.toNat=1*2 ^ (16*m).toNat:=by
 have:m=1∨m=2∨m=3∨m=4:=by omega
 rcases this with rfl|rfl|rfl|rfl<;>decide
theorem aHn (h:dP S L m) (hm:0≤m∧m≤4) (hb:1≤bits∧bits≤16) (j:Int):0≤G 76 [S,B,nB,bits,nR,L,m,j,1*2 ^ m.toNat]∧G 76 [S,B,nB,bits,nR,L,m,j,1*2 ^ m.toNat]≤(1*2 ^ bits.toNat-1)*65536 ^ m.toNat:=by
 have h16:=aGe hm
 have e:(1:Int)*2 ^ m.toNat=((2 ^ m.toNat:Nat):Int):=by rw[Int.one_mul,Int.natCast_pow];rfl
 rw[e]at h16
 rw[e,g76 h hm (by omega)]
 have hw:∀ i,i<m.toNat→0≤(iB S L).w i∧(iB S L).w i≤65536:=fun i hi=>(h i (by omega)).2.2.1
 have a:=aHb (iB S L) hw (r:=fun _=>0) (s:=fun a=>mS B nB ((a*nR+j)*bits) bits) (fun a=>(aBB _ _ _ _).1) (2 ^ m.toNat)
 have b:=aHb (iB S L) hw (r:=fun a=>mS B nB ((a*nR+j)*bits) bits) (s:=fun _=>1*2 ^ bits.toNat-1) (fun a=>aV8 hb) (2 ^ m.toNat)
 rw[aAe]at a b
 rw[Int.mul_zero]at a
 rw[Int.mul_comm]at b
 exact⟨a,b⟩
end
end Go.Proofs.Ytdldallkeheciaa
namespace Go.Proofs.Ytdldallkeheciaa
open Go Go.RowKit Sx Wi Lk
def eL (x0 x1 x2 x3 x4 x5 x6 x7 x8 l0 l1 l2 l3 l4 l5 l6:Int) (i:Nat):Nat→Int:=cR ([x0,x1,x2,x3,x4,x5,x6,x7,x8,(i:Int)]++[l0,l1,l2,l3,l4,l5,l6,G 65 [l0,l2,l3,x5,l6,x8,(i:Int)]])
theorem aHW (x0 x1 x2 x3 x4 x5 x6 x7 x8 l0 l1 l2 l3 l4 l5 l6:Int) (b0:0≤x0∧x0≤255) (b1:1≤x1∧x1≤4) (b2:1≤x2∧x2≤4) (b3:1≤x3∧x3≤4) (b4:1≤x4∧x4≤16) (b5:0≤x5∧x5≤8) (b6:0≤x6∧x6≤8) (b7:0≤x7∧x7≤70000) (b8:1≤x8∧x8≤4) (i:Nat) (hi:(i:Int)≤x8):∀ k q,sW[k]?=some q→q.1≤eL x0 x1 x2 x3 x4 x5 x6 x7 x8 l0 l1 l2 l3 l4 l5 l6 i k∧eL x0 x1 x2 x3 x4 x5 x6 x7 x8 l0 l1 l2 l3 l4 l5 l6 i k≤q.2:=by
 unfold eL sW
 exact bP (xs:=[x0,x1,x2,x3,x4,x5,x6,x7,x8,(i:Int)]) (by exact⟨b0,b1,b2,b3,b4,b5,b6,b7,b8,by omega,trivial⟩)
set_option maxHeartbeats 4000000 in
set_option maxRecDepth 100000 in
theorem aKi (x0 x1 x2 x3 x4 x5 x6 x7 x8 l0 l1 l2 l3 l4 l5 l6:Int) (b0:0≤x0∧x0≤255) (b1:1≤x1∧x1≤4) (b2:1≤x2∧x2≤4) (b3:1≤x3∧x3≤4) (b4:1≤x4∧x4≤16) (b5:0≤x5∧x5≤8) (b6:0≤x6∧x6≤8) (b7:0≤x7∧x7≤70000) (b8:1≤x8∧x8≤4) (tb:oX x0 x1 x2 x3 x4 x5 x6 l0 l1 l2) (e8:x8=x1) (i:Nat) (hi:(i:Int)≤x8):Sx.Way (tJ Try.prog) G (eL x0 x1 x2 x3 x4 x5 x6 x7 x8 l0 l1 l2 l3 l4 l5 l6 i) (cF G (eL x0 x1 x2 x3 x4 x5 x6 x7 x8 l0 l1 l2 l3 l4 l5 l6) (cR ([x0,x1,x2,x3,x4,x5,x6,x7,x8]++[l0,l1,l2,l3,l4,l5,l6])) 9 (.lit true) (fun i=>(i:Int)≤x8) (fun i=>x8.toNat-i) i) []:=by
 refine aG lH (fun h0=>?_) (fun h0=>?_)
 rotate_left
 ·skip
  refine aH aRA ?_
  unfold lH at h0;unfold aLt;simp only[nn,eL,List.cons_append,List.nil_append,Bool.or_eq_true,aP,ne_eq]at h0;have he:(i:Int)=x8:=(by omega);clear h0;simp only[cF];refine⟨rfl,(fun k hk=>by (match k,hk with|0,_=>rfl|1,_=>rfl|2,_=>rfl|3,_=>rfl|4,_=>rfl|5,_=>rfl|6,_=>rfl|7,_=>rfl|8,_=>rfl)),?_⟩;simp only[aI];simp only[nn,eL,List.cons_append,List.nil_append,Bool.or_eq_true,aP,ne_eq];rw[he];(repeat' refine And.intro ?_ ?_)<;>first|with_reducible rfl|trivial
 refine aG aFV (fun h1=>?_) (fun h1=>?_)
 rotate_left
 ·skip
  refine aQ ?_
  unfold lH at h0;unfold aFV at h1;exfalso;have z:=h0;have z1:=h1;clear h0 h1;simp only[nn,eL,List.cons_append,List.nil_append,Bool.or_eq_true,aP,ne_eq]at z z1;obtain⟨_,t1,tD,t2,_,t3,tS,t4,t5,t6⟩:=tb;have u:1≤G 83 [l2,(i:Int),0]∧G 83 [l2,(i:Int),0]≤256:=tS i (by omega);have v:G 82 [l0,(i:Int),0]<G 82 [l0,(i:Int),1]:=tD i (by omega);clear tS tD;(try simp only[Bool.or_eq_false_iff,decide_eq_false_iff_not]at z1);generalize G 83 [l2,(i:Int),0]=c0 at *;generalize G 82 [l0,(i:Int),0]=c1 at *;generalize G 82 [l0,(i:Int),1]=c2 at *;omega
 refine aG aFO (fun h2=>?_) (fun h2=>?_)
 rotate_left
 ·skip
  refine aQ ?_
  unfold lH at h0;unfold aFO at h2;exfalso;have z:=h0;have z1:=h2;clear h0 h1 h2;simp only[nn,eL,List.cons_append,List.nil_append,Bool.or_eq_true,aP,ne_eq]at z z1;obtain⟨_,t1,tD,t2,_,t3,tS,t4,t5,t6⟩:=tb;have u:1≤G 83 [l2,(i:Int),0]∧G 83 [l2,(i:Int),0]≤256:=tS i (by omega);have v:G 82 [l0,(i:Int),0]<G 82 [l0,(i:Int),1]:=tD i (by omega);clear tS tD;(try simp only[Bool.or_eq_false_iff,decide_eq_false_iff_not]at z1);generalize G 83 [l2,(i:Int),0]=c0 at *;generalize G 82 [l0,(i:Int),0]=c1 at *;generalize G 82 [l0,(i:Int),1]=c2 at *;omega
 refine aG aFX (fun h3=>?_) (fun h3=>?_)
 rotate_left
 ·skip
  refine aQ ?_
  unfold lH at h0;unfold aFX at h3;exfalso;have z:=h0;have z1:=h3;clear h0 h1 h2 h3;simp only[nn,eL,List.cons_append,List.nil_append,Bool.or_eq_true,aP,ne_eq]at z z1;obtain⟨_,t1,tD,t2,_,t3,tS,t4,t5,t6⟩:=tb;have u:1≤G 83 [l2,(i:Int),0]∧G 83 [l2,(i:Int),0]≤256:=tS i (by omega);have v:G 82 [l0,(i:Int),0]<G 82 [l0,(i:Int),1]:=tD i (by omega);clear tS tD;(try simp only[Bool.or_eq_false_iff,decide_eq_false_iff_not]at z1);generalize G 83 [l2,(i:Int),0]=c0 at *;generalize G 82 [l0,(i:Int),0]=c1 at *;generalize G 82 [l0,(i:Int),1]=c2 at *;omega
 refine aG aFH (fun h4=>?_) (fun h4=>?_)
 rotate_left
 ·skip
  refine aQ ?_
  unfold lH at h0;unfold aFH at h4;exfalso;have z:=h0;have z1:=h4;clear h0 h1 h2 h3 h4;simp only[nn,eL,List.cons_append,List.nil_append,Bool.or_eq_true,aP,ne_eq]at z z1;obtain⟨_,t1,tD,t2,_,t3,tS,t4,t5,t6⟩:=tb;have u:1≤G 83 [l2,(i:Int),0]∧G 83 [l2,(i:Int),0]≤256:=tS i (by omega);have v:G 82 [l0,(i:Int),0]<G 82 [l0,(i:Int),1]:=tD i (by omega);clear tS tD;(try simp only[Bool.or_eq_false_iff,decide_eq_false_iff_not]at z1);generalize G 83 [l2,(i:Int),0]=c0 at *;generalize G 82 [l0,(i:Int),0]=c1 at *;generalize G 82 [l0,(i:Int),1]=c2 at *;omega
 refine aG aFU (fun h5=>?_) (fun h5=>?_)
 rotate_left
 ·skip
  refine aQ ?_
  unfold lH at h0;unfold aFU at h5;exfalso;have z:=h0;have z1:=h5;clear h0 h1 h2 h3 h4 h5;simp only[nn,eL,List.cons_append,List.nil_append,Bool.or_eq_true,aP,ne_eq]at z z1;obtain⟨_,t1,tD,t2,_,t3,tS,t4,t5,t6⟩:=tb;have u:1≤G 83 [l2,(i:Int),0]∧G 83 [l2,(i:Int),0]≤256:=tS i (by omega);have v:G 82 [l0,(i:Int),0]<G 82 [l0,(i:Int),1]:=tD i (by omega);clear tS tD;(try simp only[Bool.or_eq_false_iff,decide_eq_false_iff_not]at z1);generalize G 83 [l2,(i:Int),0]=c0 at *;generalize G 82 [l0,(i:Int),0]=c1 at *;generalize G 82 [l0,(i:Int),1]=c2 at *;omega
 refine aG aFg (fun h6=>?_) (fun h6=>?_)
 ·skip
  refine aH aUO ?_
  unfold lH at h0;unfold aMs;have z:=h0;clear h0 h1 h2 h3 h4 h5 h6;simp only[nn,eL,List.cons_append,List.nil_append,Bool.or_eq_true,aP,ne_eq]at z;have key:=aOC (D:=l0) (S:=l2) (En:=l3) (nE:=x5) (IN:=l6) z;have hm:x8.toNat-(i+1)<x8.toNat-i:=(by omega);have hg:((i+1:Nat):Int)≤x8:=(by omega);clear z;simp only[cF];refine⟨i+1,hg,hm,(fun k hk=>by (match k,hk with|0,_=>rfl|1,_=>rfl|2,_=>rfl|3,_=>rfl|4,_=>rfl|5,_=>rfl|6,_=>rfl|7,_=>rfl|8,_=>rfl)),?_⟩;simp only[aI];simp only[nn,eL,List.cons_append,List.nil_append,Bool.or_eq_true,aP,ne_eq];rw[key];(repeat' refine And.intro ?_ ?_)<;>first|with_reducible rfl|trivial|omega
 refine aQ ?_
 unfold lH at h0;unfold aFg at h6;exfalso;have z:=h0;have z1:=h6;clear h0 h1 h2 h3 h4 h5 h6;simp only[nn,eL,List.cons_append,List.nil_append,Bool.or_eq_true,aP,ne_eq]at z z1;obtain⟨_,t1,tD,t2,_,t3,tS,t4,t5,t6⟩:=tb;have u:1≤G 83 [l2,(i:Int),0]∧G 83 [l2,(i:Int),0]≤256:=tS i (by omega);have v:G 82 [l0,(i:Int),0]<G 82 [l0,(i:Int),1]:=tD i (by omega);clear tS tD;(try simp only[Bool.or_eq_false_iff,decide_eq_false_iff_not]at z1);generalize G 83 [l2,(i:Int),0]=c0 at *;generalize G 82 [l0,(i:Int),0]=c1 at *;generalize G 82 [l0,(i:Int),1]=c2 at *;omega
end Go.Proofs.Ytdldallkeheciaa
set_option maxRecDepth 100000
namespace Go.Proofs.Ytdldallkeheciaa
open Go Go.RowKit Sx Wi Lk
def aKB (P:Program) (fs:List B):Res SV:=uY P fs
def aHC:List B:=[]
def qO:B:=(.cmp .lt (.var 9) (.var 2))
def aRc:List B:=aJ qO++aHC
def aDj:B:=(.cmp .eq (.var 3) (.var 8))
def aQY:List B:=aJ aDj++aRc
def aB9:B:=(gdB (.var 12) (.app 65 (.cons (.var 10) (.cons (.var 12) (.cons (.var 13) (.cons (.var 5) (.cons (.var 16) (.cons (.var 8) (.cons (.var 8) .nil)))))))) (.var 3))
def aPW:List B:=aJ aB9++aQY
def aCJ:B:=(.and (.cmp .le (.app 76 (.cons (.var 12) (.cons (.var 15) (.cons (.var 7) (.cons (.var 4) (.cons (.var 2) (.cons (.app 65 (.cons (.var 10) (.cons (.var 12) (.cons (.var 13) (.cons (.var 5) (.cons (.var 16) (.cons (.var 8) (.cons (.var 8) .nil)))))))) (.cons (.var 3) (.cons (.var 9) (.cons (.op .shl (.lit 1) (.var 3)) .nil)))))))))) (.op .mul (.op .sub (.op .shl (.lit 1) (.var 4)) (.lit 1)) (.op .shl (.lit 1) (.op .mul (.lit 16) (.var 3))))) (.cmp .le (.lit 0) (.app 76 (.cons (.var 12) (.cons (.var 15) (.cons (.var 7) (.cons (.var 4) (.cons (.var 2) (.cons (.app 65 (.cons (.var 10) (.cons (.var 12) (.cons (.var 13) (.cons (.var 5) (.cons (.var 16) (.cons (.var 8) (.cons (.var 8) .nil)))))))) (.cons (.var 3) (.cons (.var 9) (.cons (.op .shl (.lit 1) (.var 3)) .nil))))))))))))
def aPC:List B:=aJ aCJ++aPW
def aGj:SV:=(.agg [(.int .i64 (.op .add (.var 9) (.lit 1))),(.int .i64 (.var 9)),(.int .i64 (.var 10)),(.int .i64 (.var 10)),(.int .i64 (.var 11)),(.int .i64 (.var 11)),(.int .i64 (.var 12)),(.int .i64 (.var 12)),(.int .i64 (.var 13)),(.int .i64 (.var 13)),(.int .i64 (.var 14)),(.int .i64 (.var 14)),(.int .i64 (.var 15)),(.int .i64 (.var 15)),(.int .i64 (.var 16)),(.int .i64 (.var 16)),(.int .i64 (.app 65 (.cons (.var 10) (.cons (.var 12) (.cons (.var 13) (.cons (.var 5) (.cons (.var 16) (.cons (.var 8) (.cons (.var 8) .nil))))))))),(.int .i64 (.app 65 (.cons (.var 10) (.cons (.var 12) (.cons (.var 13) (.cons (.var 5) (.cons (.var 16) (.cons (.var 8) (.cons (.var 8) .nil))))))))),(.int .i64 (.app 92 (.cons (.var 17) (.cons (.var 9) (.cons (.op .min (.op .max (.app 68 (.cons (.var 3) (.cons (.var 4) (.cons (.app 82 (.cons (.var 11) (.cons (.var 9) (.cons (.lit 0) .nil)))) (.cons (.app 82 (.cons (.var 11) (.cons (.var 9) (.cons (.lit 1) .nil)))) (.cons (.app 76 (.cons (.var 12) (.cons (.var 15) (.cons (.var 7) (.cons (.var 4) (.cons (.var 2) (.cons (.app 65 (.cons (.var 10) (.cons (.var 12) (.cons (.var 13) (.cons (.var 5) (.cons (.var 16) (.cons (.var 8) (.cons (.var 8) .nil)))))))) (.cons (.var 3) (.cons (.var 9) (.cons (.op .shl (.lit 1) (.var 3)) .nil)))))))))) .nil)))))) (.app 82 (.cons (.var 11) (.cons (.var 9) (.cons (.lit 0) .nil))))) (.app 82 (.cons (.var 11) (.cons (.var 9) (.cons (.lit 1) .nil))))) .nil))))),(.int .i64 (.var 17))])
def aPv:List B:=aJ (B.neg qO)++aHC
def aHm:SV:=(.tuple [(.agg [(.int .i64 (.var 10)),(.int .i64 (.var 9)),(.int .i64 (.var 11)),(.int .i64 (.var 10)),(.int .i64 (.var 12)),(.int .i64 (.var 11)),(.int .i64 (.var 13)),(.int .i64 (.var 12)),(.int .i64 (.var 14)),(.int .i64 (.var 13)),(.int .i64 (.var 15)),(.int .i64 (.var 14)),(.int .i64 (.var 16)),(.int .i64 (.var 15)),(.int .i64 (.app 65 (.cons (.var 10) (.cons (.var 12) (.cons (.var 13) (.cons (.var 5) (.cons (.var 16) (.cons (.var 8) (.cons (.var 8) .nil))))))))),(.int .i64 (.app 65 (.cons (.var 9) (.cons (.var 11) (.cons (.var 12) (.cons (.var 5) (.cons (.var 15) (.cons (.var 8) (.cons (.var 8) .nil))))))))),(.int .i64 (.var 17)),(.int .i64 (.app 73 (.cons (.var 11) (.cons (.var 14) (.cons (.var 7) (.cons (.var 4) (.cons (.var 10) (.cons (.var 10) (.cons (.var 2) (.cons (.app 65 (.cons (.var 9) (.cons (.var 11) (.cons (.var 12) (.cons (.var 5) (.cons (.var 15) (.cons (.var 8) (.cons (.var 8) .nil)))))))) (.cons (.var 3) (.cons (.var 2) .nil))))))))))))]),(.bool (.lit true))])
theorem aNH:aKB Try.prog aPC = .ok aGj:=by kernel_rfl
theorem aSi:aKB Try.prog aPv = .ok aHm:=by kernel_rfl
end Go.Proofs.Ytdldallkeheciaa
namespace Go.Proofs.Ytdldallkeheciaa
open Go Go.RowKit Sx Wi Lk
def eP (x0 x1 x2 x3 x4 x5 x6 x7 x8 l0 l1 l2 l3 l4 l5 l6:Int) (j:Nat):Nat→Int:=cR ([x0,x1,x2,x3,x4,x5,x6,x7,x8,(j:Int)]++[l0,l1,l2,l3,l4,l5,l6,G 73 [l2,l5,x7,x4,l1,l1,x2,(G 65 [l0,l2,l3,x5,l6,x8,x8]),x3,(j:Int)]])
theorem aJS (x0 x1 x2 x3 x4 x5 x6 x7 x8 l0 l1 l2 l3 l4 l5 l6:Int) (b0:0≤x0∧x0≤255) (b1:1≤x1∧x1≤4) (b2:1≤x2∧x2≤4) (b3:1≤x3∧x3≤4) (b4:1≤x4∧x4≤16) (b5:0≤x5∧x5≤8) (b6:0≤x6∧x6≤8) (b7:0≤x7∧x7≤70000) (b8:1≤x8∧x8≤4) (j:Nat) (hj:(j:Int)≤x2):∀ k q,vD[k]?=some q→q.1≤eP x0 x1 x2 x3 x4 x5 x6 x7 x8 l0 l1 l2 l3 l4 l5 l6 j k∧eP x0 x1 x2 x3 x4 x5 x6 x7 x8 l0 l1 l2 l3 l4 l5 l6 j k≤q.2:=by
 unfold eP vD
 exact bP (xs:=[x0,x1,x2,x3,x4,x5,x6,x7,x8,(j:Int)]) (by exact⟨b0,b1,b2,b3,b4,b5,b6,b7,b8,by omega,trivial⟩)
theorem aJf (x0 x1 x2 x3 x4 x5 x6 x7 x8 l0 l1 l2 l3 l4 l5 l6:Int) (tb:oX x0 x1 x2 x3 x4 x5 x6 l0 l1 l2) (e8:x8=x1):dP l2 (G 65 [l0,l2,l3,x5,l6,x8,x8]) x3:=by
 obtain⟨_,_,_,_,_,t3,tS,_⟩:=tb
 have e:x8=x3:=by omega
 rw[e]
 exact aJs tS
set_option maxHeartbeats 4000000 in
set_option maxRecDepth 100000 in
theorem aN1 (x0 x1 x2 x3 x4 x5 x6 x7 x8 l0 l1 l2 l3 l4 l5 l6:Int) (b0:0≤x0∧x0≤255) (b1:1≤x1∧x1≤4) (b2:1≤x2∧x2≤4) (b3:1≤x3∧x3≤4) (b4:1≤x4∧x4≤16) (b5:0≤x5∧x5≤8) (b6:0≤x6∧x6≤8) (b7:0≤x7∧x7≤70000) (b8:1≤x8∧x8≤4) (tb:oX x0 x1 x2 x3 x4 x5 x6 l0 l1 l2) (e8:x8=x1) (j:Nat) (hj:(j:Int)≤x2):Sx.Way (uY Try.prog) G (eP x0 x1 x2 x3 x4 x5 x6 x7 x8 l0 l1 l2 l3 l4 l5 l6 j) (cF G (eP x0 x1 x2 x3 x4 x5 x6 x7 x8 l0 l1 l2 l3 l4 l5 l6) (cR ([x0,x1,x2,x3,x4,x5,x6,x7,x8]++[l0,l1,l2,l3,l4,l5,l6])) 9 (.lit true) (fun j=>(j:Int)≤x2) (fun j=>x2.toNat-j) j) []:=by
 have hr:=aJf x0 x1 x2 x3 x4 x5 x6 x7 x8 l0 l1 l2 l3 l4 l5 l6 tb e8
 have e3:x3=x8:=by have:=tb.2.2.2.2.2.1;omega
 clear tb
 refine aG qO (fun h0=>?_) (fun h0=>?_)
 rotate_left
 ·skip
  refine aH aSi ?_
  unfold qO at h0;unfold aHm;simp only[nn,eP,List.cons_append,List.nil_append,Bool.or_eq_true,aP,ne_eq]at h0;have he:(j:Int)=x2:=(by omega);clear h0;simp only[cF];refine⟨rfl,(fun k hk=>by (match k,hk with|0,_=>rfl|1,_=>rfl|2,_=>rfl|3,_=>rfl|4,_=>rfl|5,_=>rfl|6,_=>rfl|7,_=>rfl|8,_=>rfl)),?_⟩;simp only[aI];simp only[nn,eP,List.cons_append,List.nil_append,Bool.or_eq_true,aP,ne_eq];rw[he];(repeat' refine And.intro ?_ ?_)<;>first|with_reducible rfl|trivial
 refine aG aDj (fun h1=>?_) (fun h1=>?_)
 rotate_left
 ·skip
  refine aQ ?_
  unfold qO at h0;unfold aDj at h1;exfalso;have z:=h0;have z1:=h1;clear h0 h1;simp only[nn,eP,List.cons_append,List.nil_append,Bool.or_eq_true,aP,ne_eq]at z z1;omega
 refine aG aB9 (fun h2=>?_) (fun h2=>?_)
 rotate_left
 ·skip
  refine aQ ?_
  unfold aB9 at h2;exfalso;have z:B.den G (eP x0 x1 x2 x3 x4 x5 x6 x7 x8 l0 l1 l2 l3 l4 l5 l6 j) (gdB (.var 12) (.app 65 (.cons (.var 10) (.cons (.var 12) (.cons (.var 13) (.cons (.var 5) (.cons (.var 16) (.cons (.var 8) (.cons (.var 8) .nil)))))))) (.var 3))=true:=(tU (ρ:=eP x0 x1 x2 x3 x4 x5 x6 x7 x8 l0 l1 l2 l3 l4 l5 l6 j) (S := .var 12) (L:=(.app 65 (.cons (.var 10) (.cons (.var 12) (.cons (.var 13) (.cons (.var 5) (.cons (.var 16) (.cons (.var 8) (.cons (.var 8) .nil))))))))) (m := .var 3) b3.2).2 hr;rw[h2]at z;cases z
 refine aG aCJ (fun h3=>?_) (fun h3=>?_)
 ·skip
  refine aH aNH ?_
  unfold qO at h0;unfold aGj;have z:=h0;clear h0 h1 h2 h3;simp only[nn,eP,List.cons_append,List.nil_append,Bool.or_eq_true,aP,ne_eq]at z;have key:=aBb (S:=l2) (B:=l5) (nB:=x7) (bits:=x4) (C:=l1) (R:=l1) (L:=(G 65 [l0,l2,l3,x5,l6,x8,x8])) (m:=x3) z;have hm:x2.toNat-(j+1)<x2.toNat-j:=(by omega);have hg:((j+1:Nat):Int)≤x2:=(by omega);clear z;simp only[cF];refine⟨j+1,hg,hm,(fun k hk=>by (match k,hk with|0,_=>rfl|1,_=>rfl|2,_=>rfl|3,_=>rfl|4,_=>rfl|5,_=>rfl|6,_=>rfl|7,_=>rfl|8,_=>rfl)),?_⟩;simp only[aI];simp only[nn,eP,List.cons_append,List.nil_append,Bool.or_eq_true,aP,ne_eq];rw[key];(repeat' refine And.intro ?_ ?_)<;>first|with_reducible rfl|trivial|omega
 refine aQ ?_
 unfold aCJ at h3;exfalso;obtain⟨s0,s1⟩:=aHn (B:=l5) (nB:=x7) (bits:=x4) (nR:=x2) hr ⟨by omega,b3.2⟩ b4 (j:Int);have e0:(65536:Int) ^ x3.toNat=1*2 ^ (16*x3).toNat:=p16 b3;rw[e0]at s1;clear h0 h1 h2;(try simp only[Bool.and_eq_false_iff]at h3);apply absurd h3;rw[Bool.not_eq_false];simp only[nn,eP,List.cons_append,List.nil_append,Bool.or_eq_true,aP,ne_eq];exact⟨s1,s0⟩
set_option maxHeartbeats 4000000 in
set_option maxRecDepth 100000 in
theorem aIZ (x0 x1 x2 x3 x4 x5 x6 x7 x8 l0 l1 l2 l3 l4 l5 l6:Int) (tb:oX x0 x1 x2 x3 x4 x5 x6 l0 l1 l2) (e8:x8=x1):gG Try.prog G (bN GB) (cN (bW Try.prog 11) 0) aFF (cR ([x0,x1,x2,x3,x4,x5,x6,x7,x8]++[l0,l1,l2,l3,l4,l5,l6])):=by
 intro hw _
 have hb:dW sW ([x0,x1,x2,x3,x4,x5,x6,x7,x8]++[0]):=hw
 unfold sW at hb
 simp only[List.cons_append,List.nil_append]at hb
 obtain⟨b0,b1,b2,b3,b4,b5,b6,b7,b8,_⟩:=hb
 have e:gA G (cR ([x0,x1,x2,x3,x4,x5,x6,x7,x8]++[l0,l1,l2,l3,l4,l5,l6])) aFF.es=eL x0 x1 x2 x3 x4 x5 x6 x7 x8 l0 l1 l2 l3 l4 l5 l6 0:=by
  rw[eI]
  unfold eL
  rw[show ((0:Nat):Int)=0 from rfl,←aGr (D:=l0) (S:=l2) (En:=l3) (nE:=x5) (IN:=l6)]
  rfl
 rw[e]
 exact⟨x8.toNat+1,iZ (ι:=Nat) (ρ:=eL x0 x1 x2 x3 x4 x5 x6 x7 x8 l0 l1 l2 l3 l4 l5 l6) (ρT:=(cR ([x0,x1,x2,x3,x4,x5,x6,x7,x8]++[l0,l1,l2,l3,l4,l5,l6]))) (m:=fun j=>x8.toNat-j) (Good:=fun j=>(j:Int)≤x8) (run:=tJ Try.prog) (f:=11) (fun _=>rfl) fits rfl eS (fun j hj=>aHW x0 x1 x2 x3 x4 x5 x6 x7 x8 l0 l1 l2 l3 l4 l5 l6 b0 b1 b2 b3 b4 b5 b6 b7 b8 j hj) (fun _ _ X hX hG=>lK hX hG) (fun _ _ X hX hG=>cG) (fun j hj=>aKi x0 x1 x2 x3 x4 x5 x6 x7 x8 l0 l1 l2 l3 l4 l5 l6 b0 b1 b2 b3 b4 b5 b6 b7 b8 tb e8 j hj) (by decide) (fun x hx=>by rw[aEp]at hx;cases hx) _ 0 (by show ((0:Nat):Int)≤x8;omega) (by show x8.toNat-0<x8.toNat+1;omega)⟩
set_option maxHeartbeats 4000000 in
set_option maxRecDepth 100000 in
theorem aIz (x0 x1 x2 x3 x4 x5 x6 x7 x8 l0 l1 l2 l3 l4 l5 l6:Int) (tb:oX x0 x1 x2 x3 x4 x5 x6 l0 l1 l2) (e8:x8=x1):gG Try.prog G (bN GB) (cN (bW Try.prog 11) 1) aFW (cR ([x0,x1,x2,x3,x4,x5,x6,x7,x8]++[l0,l1,l2,l3,l4,l5,l6])):=by
 intro hw _
 have hb:dW vD ([x0,x1,x2,x3,x4,x5,x6,x7,x8]++[0]):=hw
 unfold vD at hb
 simp only[List.cons_append,List.nil_append]at hb
 obtain⟨b0,b1,b2,b3,b4,b5,b6,b7,b8,_⟩:=hb
 have e:gA G (cR ([x0,x1,x2,x3,x4,x5,x6,x7,x8]++[l0,l1,l2,l3,l4,l5,l6])) aFW.es=eP x0 x1 x2 x3 x4 x5 x6 x7 x8 l0 l1 l2 l3 l4 l5 l6 0:=by
  rw[eI]
  unfold eP
  rw[show ((0:Nat):Int)=0 from rfl,←aA1 (S:=l2) (B:=l5) (nB:=x7) (bits:=x4) (C:=l1) (R:=l1) (L:=G 65 [l0,l2,l3,x5,l6,x8,x8]) (m:=x3)]
  rfl
 rw[e]
 exact⟨x2.toNat+1,iZ (ι:=Nat) (ρ:=eP x0 x1 x2 x3 x4 x5 x6 x7 x8 l0 l1 l2 l3 l4 l5 l6) (ρT:=(cR ([x0,x1,x2,x3,x4,x5,x6,x7,x8]++[l0,l1,l2,l3,l4,l5,l6]))) (m:=fun j=>x2.toNat-j) (Good:=fun j=>(j:Int)≤x2) (run:=uY Try.prog) (f:=11) (fun _=>rfl) fits rfl eS (fun j hj=>aJS x0 x1 x2 x3 x4 x5 x6 x7 x8 l0 l1 l2 l3 l4 l5 l6 b0 b1 b2 b3 b4 b5 b6 b7 b8 j hj) (fun _ _ X hX hG=>lK hX hG) (fun _ _ X hX hG=>cG) (fun j hj=>aN1 x0 x1 x2 x3 x4 x5 x6 x7 x8 l0 l1 l2 l3 l4 l5 l6 b0 b1 b2 b3 b4 b5 b6 b7 b8 tb e8 j hj) (by decide) (fun x hx=>by rw[aD9]at hx;exact Option.mem_toList.1 hx) _ 0 (by show ((0:Nat):Int)≤x2;omega) (by show x2.toNat-0<x2.toNat+1;omega)⟩
set_option maxHeartbeats 8000000 in
set_option maxRecDepth 100000 in
theorem aOt (x0 x1 x2 x3 x4 x5 x6 x7 x8 l0 l1 l2 l3 l4 l5 l6:Int) (b0:0≤x0∧x0≤255) (b1:0≤x1∧x1≤8) (b2:0≤x2∧x2≤8) (b3:0≤x3∧x3≤8) (b4:(-9223372036854775808)≤x4∧x4≤9223372036854775807) (b5:0≤x5∧x5≤8) (b6:0≤x6∧x6≤8) (b7:0≤x7∧x7≤70000) (b8:0≤x8∧x8≤8) (hp:aBT.den G (cR ([x0,x1,x2,x3,x4,x5,x6,x7,x8]++[l0,l1,l2,l3,l4,l5,l6]))=true):gD Try.prog G GB 11 aK7 (cR ([x0,x1,x2,x3,x4,x5,x6,x7,x8]++[l0,l1,l2,l3,l4,l5,l6])):=by
 have hq:=hp
 unfold aBT at hq
 rw[aZ,aZ,Bool.and_eq_true,Bool.and_eq_true]at hq
 have tb:=nF (x0:=x0) (x1:=x1) (x2:=x2) (x3:=x3) (x4:=x4) (x5:=x5) (x6:=x6) (x7:=x7) (D:=l0) (R:=l1) (S:=l2) (ls:=[]) hq.1.1
 have hz:=hq.2
 simp only[nn,List.cons_append,List.nil_append,Bool.or_eq_true,aP,ne_eq]at hz
 obtain⟨e8,e60⟩:=hz
 refine cX (lp:=aNk) (run:=aF6 Try.prog) (fun _=>rfl) fits (bP (xs:=[x0,x1,x2,x3,x4,x5,x6,x7,x8]) (ls:=[l0,l1,l2,l3,l4,l5,l6]) (by exact⟨b0,b1,b2,b3,b4,b5,b6,b7,b8,trivial⟩)) eS (fun X hX hG=>lK hX hG) (fun X hX hG fn c hf hc=>?_) rfl ?_
 ·refine kX ((congrArg bI (nM hf hc)).symm.trans aIv) ?_
  intro b hb
  simp only[List.mem_cons,List.mem_nil_iff,or_false]at hb
  rcases hb with rfl|rfl
  ·refine iJ hX hG (by kernel_rfl) ?_
   intro p hp'
   simp only[List.mem_cons,List.mem_nil_iff,or_false]at hp'
   subst hp'
   exact aIZ x0 x1 x2 x3 x4 x5 x6 x7 x8 l0 l1 l2 l3 l4 l5 l6 tb e8
  ·refine qX (j:=17) (by kernel_rfl) (by decide) (iJ hX hG (by kernel_rfl) ?_)
   intro p hp'
   simp only[List.mem_cons,List.mem_nil_iff,or_false]at hp'
   subst hp'
   exact aIz x0 x1 x2 x3 x4 x5 x6 x7 x8 l0 l1 l2 l3 l4 l5 l6 tb e8
 ·skip
  refine aG aBt (fun h0=>?_) (fun h0=>?_)
  rotate_left
  ·skip
   refine aQ ?_
   unfold aBt at h0;exfalso;rw[aZ,hq.1.1,hq.1.2]at h0;cases h0
  refine aG aCL (fun h1=>?_) (fun h1=>?_)
  rotate_left
  ·skip
   refine aQ ?_
   unfold aCL at h1;exfalso;have z:=h1;clear h0 h1 hq hp;obtain⟨t0,t1,tD,t2,tR,t3,tS,t4,t5,t6⟩:=tb;clear tD tR tS;simp only[nn,List.cons_append,List.nil_append,Bool.or_eq_true,aP,ne_eq]at z;omega
  refine aG aCF (fun h2=>?_) (fun h2=>?_)
  rotate_left
  ·skip
   refine aQ ?_
   unfold aCF at h2;exfalso;have z:=h2;clear h0 h1 h2 hq hp;obtain⟨t0,t1,tD,t2,tR,t3,tS,t4,t5,t6⟩:=tb;clear tD tR tS;simp only[nn,List.cons_append,List.nil_append,Bool.or_eq_true,aP,ne_eq]at z;omega
  refine aG aC1 (fun h3=>?_) (fun h3=>?_)
  rotate_left
  ·skip
   refine aQ ?_
   unfold aC1 at h3;exfalso;have z:=h3;clear h0 h1 h2 h3 hq hp;obtain⟨t0,t1,tD,t2,tR,t3,tS,t4,t5,t6⟩:=tb;clear tD tR tS;simp only[nn,List.cons_append,List.nil_append,Bool.or_eq_true,aP,ne_eq]at z;omega
  refine aG aCG (fun h4=>?_) (fun h4=>?_)
  rotate_left
  ·skip
   refine aQ ?_
   unfold aCG at h4;exfalso;have z:=h4;clear h0 h1 h2 h3 h4 hq hp;obtain⟨t0,t1,tD,t2,tR,t3,tS,t4,t5,t6⟩:=tb;clear tD tR tS;simp only[nn,List.cons_append,List.nil_append,Bool.or_eq_true,aP,ne_eq]at z;omega
  refine aG aDh (fun h5=>?_) (fun h5=>?_)
  rotate_left
  ·skip
   refine aQ ?_
   unfold aDh at h5;exfalso;have z:=h5;clear h0 h1 h2 h3 h4 h5 hq hp;obtain⟨t0,t1,tD,t2,tR,t3,tS,t4,t5,t6⟩:=tb;clear tD tR tS;simp only[nn,List.cons_append,List.nil_append,Bool.or_eq_true,aP,ne_eq]at z;omega
  refine aG aCf (fun h6=>?_) (fun h6=>?_)
  rotate_left
  ·skip
   refine aQ ?_
   unfold aCf at h6;exfalso;have z:=h6;clear h0 h1 h2 h3 h4 h5 h6 hq hp;obtain⟨t0,t1,tD,t2,tR,t3,tS,t4,t5,t6⟩:=tb;clear tD tR tS;simp only[nn,List.cons_append,List.nil_append,Bool.or_eq_true,aP,ne_eq]at z;omega
  refine aG aBD (fun h7=>?_) (fun h7=>?_)
  rotate_left
  ·skip
   refine aQ ?_
   unfold aBD at h7;exfalso;have z:=h7;clear h0 h1 h2 h3 h4 h5 h6 h7 hq hp;obtain⟨t0,t1,tD,t2,tR,t3,tS,t4,t5,t6⟩:=tb;clear tD tR tS;simp only[nn,List.cons_append,List.nil_append,Bool.or_eq_true,aP,ne_eq]at z;omega
  refine aG aBy (fun h8=>?_) (fun h8=>?_)
  rotate_left
  ·skip
   refine aQ ?_
   unfold aBy at h8;exfalso;have z:=h8;clear h0 h1 h2 h3 h4 h5 h6 h7 h8 hq hp;obtain⟨t0,t1,tD,t2,tR,t3,tS,t4,t5,t6⟩:=tb;clear tD tR tS;simp only[nn,List.cons_append,List.nil_append,Bool.or_eq_true,aP,ne_eq]at z;omega
  refine aG aBQ (fun h9=>?_) (fun h9=>?_)
  rotate_left
  ·skip
   refine aQ ?_
   unfold aBQ at h9;exfalso;have z:=h9;clear h0 h1 h2 h3 h4 h5 h6 h7 h8 h9 hq hp;obtain⟨t0,t1,tD,t2,tR,t3,tS,t4,t5,t6⟩:=tb;clear tD tR tS;simp only[nn,List.cons_append,List.nil_append,Bool.or_eq_true,aP,ne_eq]at z;omega
  refine aG yP (fun h10=>?_) (fun h10=>?_)
  rotate_left
  ·skip
   refine aQ ?_
   unfold yP at h10;exfalso;have z:=h10;clear h0 h1 h2 h3 h4 h5 h6 h7 h8 h9 h10 hq hp;obtain⟨t0,t1,tD,t2,tR,t3,tS,t4,t5,t6⟩:=tb;clear tD tR tS;simp only[nn,List.cons_append,List.nil_append,Bool.or_eq_true,aP,ne_eq]at z;omega
  refine aG aAu (fun h11=>?_) (fun h11=>?_)
  rotate_left
  ·skip
   refine aQ ?_
   unfold aAu at h11;exfalso;have z:=h11;clear h0 h1 h2 h3 h4 h5 h6 h7 h8 h9 h10 h11 hq hp;obtain⟨t0,t1,tD,t2,tR,t3,tS,t4,t5,t6⟩:=tb;clear tD tR tS;simp only[nn,List.cons_append,List.nil_append,Bool.or_eq_true,aP,ne_eq]at z;omega
  refine aG xP (fun h12=>?_) (fun h12=>?_)
  rotate_left
  ·skip
   refine aQ ?_
   unfold xP at h12;exfalso;have z:=h12;clear h0 h1 h2 h3 h4 h5 h6 h7 h8 h9 h10 h11 h12 hq hp;obtain⟨t0,t1,tD,t2,tR,t3,tS,t4,t5,t6⟩:=tb;clear tD tR tS;simp only[nn,List.cons_append,List.nil_append,Bool.or_eq_true,aP,ne_eq]at z;omega
  refine aG yC (fun h13=>?_) (fun h13=>?_)
  rotate_left
  ·skip
   refine aQ ?_
   unfold yC at h13;exfalso;have z:=h13;clear h0 h1 h2 h3 h4 h5 h6 h7 h8 h9 h10 h11 h12 h13 hq hp;obtain⟨t0,t1,tD,t2,tR,t3,tS,t4,t5,t6⟩:=tb;clear tD tR tS;simp only[nn,List.cons_append,List.nil_append,Bool.or_eq_true,aP,ne_eq]at z;omega
  refine aG aAa (fun h14=>?_) (fun h14=>?_)
  ·skip
   refine aH aJK ?_
   exact⟨rfl,trivial⟩
  refine aQ ?_
  unfold aAa at h14;exfalso;have z:=h14;clear h0 h1 h2 h3 h4 h5 h6 h7 h8 h9 h10 h11 h12 h13 h14 hq hp;obtain⟨t0,t1,tD,t2,tR,t3,tS,t4,t5,t6⟩:=tb;clear tD tR tS;simp only[nn,List.cons_append,List.nil_append,Bool.or_eq_true,aP,ne_eq]at z;omega
def aAO:Ctx→List SV→aM→Res (SV × aM):=dZ GB [(0,255),(0,8),(0,8),(0,8),((-9223372036854775808),9223372036854775807),(0,8),(0,8),(0,70000),(0,8)] 7 aBT aK7
theorem aVy {X:Ctx} {ρ:Nat→Int} (hX:X.Ok ρ) (hG:X.G=G):eU Try.prog X ρ GB 11 aAO:=by
 obtain⟨XG,XI,XV,XF⟩:=X
 simp only at hG
 subst hG
 refine cU hX ?_
 intro xs ls hw hl hp
 obtain⟨x0,y0,e0,b0,h0⟩:=aY hw
 obtain⟨x1,y1,e1,b1,h1⟩:=aY h0
 obtain⟨x2,y2,e2,b2,h2⟩:=aY h1
 obtain⟨x3,y3,e3,b3,h3⟩:=aY h2
 obtain⟨x4,y4,e4,b4,h4⟩:=aY h3
 obtain⟨x5,y5,e5,b5,h5⟩:=aY h4
 obtain⟨x6,y6,e6,b6,h6⟩:=aY h5
 obtain⟨x7,y7,e7,b7,h7⟩:=aY h6
 obtain⟨x8,y8,e8,b8,h8⟩:=aY h7
 have e9:=jS h8
 subst e9 e8 e7 e6 e5 e4 e3 e2 e1 e0
 obtain⟨l0,z0,q0,hl0⟩:=bJ hl
 obtain⟨l1,z1,q1,hl1⟩:=bJ hl0
 obtain⟨l2,z2,q2,hl2⟩:=bJ hl1
 obtain⟨l3,z3,q3,hl3⟩:=bJ hl2
 obtain⟨l4,z4,q4,hl4⟩:=bJ hl3
 obtain⟨l5,z5,q5,hl5⟩:=bJ hl4
 obtain⟨l6,z6,q6,hl6⟩:=bJ hl5
 have q7:=List.length_eq_zero_iff.1 hl6
 subst q7 q6 q5 q4 q3 q2 q1 q0
 exact aOt x0 x1 x2 x3 x4 x5 x6 x7 x8 l0 l1 l2 l3 l4 l5 l6 b0 b1 b2 b3 b4 b5 b6 b7 b8 hp
def aW3:St:=⟨[.any,.any,(.ptr 7 0),.any,.any,.any,.any,(.own 8 (.var 8) (some (.var 8))),.any,.any,(.own 4 (.var 6) none),(.ptr 10 0),.any,.any,.any,.any,.any,.any,.any,.any,.any,.any,.any,.any,.any,.any,.any,.any,.any,.any,.any,.any,.any,.any,.any,.any,.any,.any,.any,.any,.any,.any,.any,.any,.any,.any,.any,.any,.any,.any,.any,.any,.any,.any,.any,.any,.any,.any,.any,.any,(.own 1 (.var 2) none),(.int .i64 (.var 2)),(.int .i64 (.var 9)),.any,.any,.any,.any,.any,.any,.any,.any,.any,.any,.any,.any,.any,.any,.any,.any,.any,.any,.any,.any,.any,.any,.any,.any,.any,.any,.any,.any,.any,.any,.any,.any,.any,.any,.any,.any,.any,.any,.any,.any,.any,.any,.any,.any,.any,.any,.any,.any,.any,.any,.any,.any,.any,.any],[some ([.vec [.int .i32,.int .i32] (.var 10) (.var 1) true],aF),some ([.vec [.int .i32,.int .i32] (.var 11) (.var 2) true],aF),some ([.vec [.int .i64] (.var 12) (.var 3) true],aF),some ([.vec [.int .i32,.int .i32] (.var 13) (.var 5) true],aF),some ([.vec [.int .i32,.int .i32] (.var 14) (.var 6) true],aF),some ([.vec [.int .u8] (.var 15) (.var 7) true],aF),some ([.vec [.int .i32] (.var 16) (.var 8) true],aF),some ([.any,.any,.any,(.own 2 (.var 3) none),(.int .i64 (.var 4)),.any,.any,(.own 5 (.var 7) none),.any,.any,.any,.any,.any,.any],30),some ([.vec [.int .i64,.int .i64,.int .i64] (.app 65 (.cons (.var 10) (.cons (.var 12) (.cons (.var 13) (.cons (.var 5) (.cons (.var 16) (.cons (.var 8) (.cons (.var 8) .nil)))))))) (.var 3) true],aU+65),some ([.vec [.int .i32] (.var 17) (.var 2) true],aU+27),some ([(.own 9 (.var 2) (some (.var 2)))],26)]⟩
def aS0:St:=⟨[.any,.any,(.ptr 7 0),.any,.any,.any,.any,.any,.any,.any,.any,(.ptr 10 0),.any,.any,.any,.any,.any,.any,.any,.any,.any,.any,.any,.any,.any,.any,.any,.any,.any,.any,.any,.any,.any,.any,.any,.any,.any,.any,.any,.any,.any,.any,.any,.any,.any,.any,.any,.any,.any,.any,.any,.any,.any,.any,.any,.any,.any,.any,.any,.any,.any,.any,.any,.any,.any,.any,.any,.any,.any,.any,.any,.any,.any,.any,.any,.any,.any,.any,.any,.any,.any,.any,.any,.any,.any,.any,.any,.any,.any,.any,.any,.any,.any,.any,.any,.any,.any,.any,.any,.any,.any,.any,.any,.any,.any,.any,.any,.any,.any,.any,.any,.any,.any,.any,.any,.any,.any],[some ([.vec [.int .i32,.int .i32] (.var 9) (.var 1) true],aF),some ([.vec [.int .i32,.int .i32] (.var 10) (.var 2) true],aF),some ([.vec [.int .i64] (.var 11) (.var 3) true],aF),some ([.vec [.int .i32,.int .i32] (.var 12) (.var 5) true],aF),some ([.vec [.int .i32,.int .i32] (.var 13) (.var 6) true],aF),some ([.vec [.int .u8] (.var 14) (.var 7) true],aF),some ([.vec [.int .i32] (.var 15) (.var 8) true],aF),some ([.any,.any,.any,(.own 2 (.var 3) none),(.int .i64 (.var 4)),.any,.any,(.own 5 (.var 7) none),.any,.any,.any,.any,.any,.any],30),some ([.vec [.int .i64,.int .i64,.int .i64] (.app 65 (.cons (.var 9) (.cons (.var 11) (.cons (.var 12) (.cons (.var 5) (.cons (.var 15) (.cons (.var 8) (.cons (.var 8) .nil)))))))) (.var 3) true],aU+65),some ([.vec [.int .i32] (.app 73 (.cons (.var 11) (.cons (.var 14) (.cons (.var 7) (.cons (.var 4) (.cons (.var 13) (.cons (.var 10) (.cons (.var 2) (.cons (.app 65 (.cons (.var 9) (.cons (.var 11) (.cons (.var 12) (.cons (.var 5) (.cons (.var 15) (.cons (.var 8) (.cons (.var 8) .nil)))))))) (.cons (.var 3) (.cons (.var 2) .nil))))))))))) (.var 2) true],aU+27),some ([(.own 9 (.var 2) (some (.var 2)))],26)]⟩
def aTn:LoopS:=⟨9,11,aW3,.lit true,.exit 2,aS0,.exit 2,aS0⟩
def uJ:List (Int × Int):=[(0,255),(1,4),(1,4),(1,4),(1,16),(0,8),(0,8),(0,70000),(1,4),(0,4)]
def uF (P:Program) (fs:List B):Res SV:=cB G GI uJ fs fun X=>pH P X GB zU dQ 4000 11 (cN (bW P 11) 1) aTn
def aE9:LoopU:=⟨aUW,[(.var 0),(.var 1),(.var 2),(.var 3),(.var 4),(.var 5),(.var 6),(.var 7),(.var 8),(.lit 0),(.var 9),(.var 10),(.var 11),(.var 12),(.var 13),(.var 14),(.var 15),(.app 96 (.cons (.var 8) (.cons (.lit 0) (.cons (.lit 0) (.cons (.lit 0) .nil)))))],sW,.lit true⟩
def aFN:LoopU:=⟨aTn,[(.var 0),(.var 1),(.var 2),(.var 3),(.var 4),(.var 5),(.var 6),(.var 7),(.var 8),(.lit 0),(.var 9),(.var 10),(.var 11),(.var 12),(.var 13),(.var 14),(.var 15),(.app 96 (.cons (.var 2) (.cons (.lit 0) .nil)))],uJ,.lit true⟩
def aMR:fH:=jM 8 (fS (bN GB) [aE9]) (jM 17 (fS (bN GB) [aFN]) dQ)
def aBJ:B:=(.and (.and (.and (.cmp .eq (.var 0) (.lit 1)) (.and (.cmp .lt (.lit 0) (.var 1)) (.and (.cmp .le (.var 1) (.lit 4)) (.and (B.neg (.or (.and (.cmp .lt (.lit 0) (.var 1)) (.cmp .le (.app 82 (.cons (.var 9) (.cons (.lit 0) (.cons (.lit 1) .nil)))) (.app 82 (.cons (.var 9) (.cons (.lit 0) (.cons (.lit 0) .nil)))))) (.or (.and (.cmp .lt (.lit 1) (.var 1)) (.cmp .le (.app 82 (.cons (.var 9) (.cons (.lit 1) (.cons (.lit 1) .nil)))) (.app 82 (.cons (.var 9) (.cons (.lit 1) (.cons (.lit 0) .nil)))))) (.or (.and (.cmp .lt (.lit 2) (.var 1)) (.cmp .le (.app 82 (.cons (.var 9) (.cons (.lit 2) (.cons (.lit 1) .nil)))) (.app 82 (.cons (.var 9) (.cons (.lit 2) (.cons (.lit 0) .nil)))))) (.and (.cmp .lt (.lit 3) (.var 1)) (.cmp .le (.app 82 (.cons (.var 9) (.cons (.lit 3) (.cons (.lit 1) .nil)))) (.app 82 (.cons (.var 9) (.cons (.lit 3) (.cons (.lit 0) .nil)))))))))) (.and (.cmp .lt (.lit 0) (.var 2)) (.and (.cmp .le (.var 2) (.lit 4)) (.and (B.neg (.or (.and (.cmp .lt (.lit 0) (.var 2)) (.cmp .lt (.app 82 (.cons (.var 10) (.cons (.lit 0) (.cons (.lit 1) .nil)))) (.app 82 (.cons (.var 10) (.cons (.lit 0) (.cons (.lit 0) .nil)))))) (.or (.and (.cmp .lt (.lit 1) (.var 2)) (.cmp .lt (.app 82 (.cons (.var 10) (.cons (.lit 1) (.cons (.lit 1) .nil)))) (.app 82 (.cons (.var 10) (.cons (.lit 1) (.cons (.lit 0) .nil)))))) (.or (.and (.cmp .lt (.lit 2) (.var 2)) (.cmp .lt (.app 82 (.cons (.var 10) (.cons (.lit 2) (.cons (.lit 1) .nil)))) (.app 82 (.cons (.var 10) (.cons (.lit 2) (.cons (.lit 0) .nil)))))) (.and (.cmp .lt (.lit 3) (.var 2)) (.cmp .lt (.app 82 (.cons (.var 10) (.cons (.lit 3) (.cons (.lit 1) .nil)))) (.app 82 (.cons (.var 10) (.cons (.lit 3) (.cons (.lit 0) .nil)))))))))) (.and (.cmp .eq (.var 3) (.var 1)) (.and (B.neg (.or (.and (.cmp .lt (.lit 0) (.var 3)) (.or (.cmp .lt (.app 83 (.cons (.var 11) (.cons (.lit 0) (.cons (.lit 0) .nil)))) (.lit 1)) (.cmp .lt (.lit 256) (.app 83 (.cons (.var 11) (.cons (.lit 0) (.cons (.lit 0) .nil))))))) (.or (.and (.cmp .lt (.lit 1) (.var 3)) (.or (.cmp .lt (.app 83 (.cons (.var 11) (.cons (.lit 1) (.cons (.lit 0) .nil)))) (.lit 1)) (.cmp .lt (.lit 256) (.app 83 (.cons (.var 11) (.cons (.lit 1) (.cons (.lit 0) .nil))))))) (.or (.and (.cmp .lt (.lit 2) (.var 3)) (.or (.cmp .lt (.app 83 (.cons (.var 11) (.cons (.lit 2) (.cons (.lit 0) .nil)))) (.lit 1)) (.cmp .lt (.lit 256) (.app 83 (.cons (.var 11) (.cons (.lit 2) (.cons (.lit 0) .nil))))))) (.or (.and (.cmp .lt (.lit 3) (.var 3)) (.or (.cmp .lt (.app 83 (.cons (.var 11) (.cons (.lit 3) (.cons (.lit 0) .nil)))) (.lit 1)) (.cmp .lt (.lit 256) (.app 83 (.cons (.var 11) (.cons (.lit 3) (.cons (.lit 0) .nil))))))) (.or (.and (.cmp .lt (.lit 4) (.var 3)) (.or (.cmp .lt (.app 83 (.cons (.var 11) (.cons (.lit 4) (.cons (.lit 0) .nil)))) (.lit 1)) (.cmp .lt (.lit 256) (.app 83 (.cons (.var 11) (.cons (.lit 4) (.cons (.lit 0) .nil))))))) (.or (.and (.cmp .lt (.lit 5) (.var 3)) (.or (.cmp .lt (.app 83 (.cons (.var 11) (.cons (.lit 5) (.cons (.lit 0) .nil)))) (.lit 1)) (.cmp .lt (.lit 256) (.app 83 (.cons (.var 11) (.cons (.lit 5) (.cons (.lit 0) .nil))))))) (.or (.and (.cmp .lt (.lit 6) (.var 3)) (.or (.cmp .lt (.app 83 (.cons (.var 11) (.cons (.lit 6) (.cons (.lit 0) .nil)))) (.lit 1)) (.cmp .lt (.lit 256) (.app 83 (.cons (.var 11) (.cons (.lit 6) (.cons (.lit 0) .nil))))))) (.and (.cmp .lt (.lit 7) (.var 3)) (.or (.cmp .lt (.app 83 (.cons (.var 11) (.cons (.lit 7) (.cons (.lit 0) .nil)))) (.lit 1)) (.cmp .lt (.lit 256) (.app 83 (.cons (.var 11) (.cons (.lit 7) (.cons (.lit 0) .nil))))))))))))))) (.and (.or (.cmp .eq (.var 4) (.lit 1)) (.or (.cmp .eq (.var 4) (.lit 2)) (.or (.cmp .eq (.var 4) (.lit 4)) (.or (.cmp .eq (.var 4) (.lit 8)) (.or (.cmp .eq (.var 4) (.lit 12)) (.cmp .eq (.var 4) (.lit 16))))))) (.and (.or (.cmp .eq (.var 5) (.lit 0)) (.cmp .eq (.var 5) (.var 1))) (.or (.cmp .eq (.var 6) (.lit 0)) (.cmp .eq (.var 6) (.var 2)))))))))))))) (.and (.cmp .le (.app 63 (.cons (.var 2) (.cons (.var 4) (.cons (.var 11) (.cons (.var 3) .nil))))) (.lit 524288)) (.cmp .le (.app 63 (.cons (.var 2) (.cons (.var 4) (.cons (.var 11) (.cons (.var 3) .nil))))) (.op .mul (.lit 8) (.var 7))))) (.and (.cmp .eq (.var 8) (.var 1)) (.and (.cmp .eq (.var 6) (.var 2)) (.cmp .lt (.lit 0) (.var 6)))))
def aLq:FunS:=⟨[(.agg [(.int .u8 (.var 0)),(.own 0 (.var 1) none),(.own 1 (.var 2) none),(.own 2 (.var 3) none),(.int .i64 (.var 4)),(.own 3 (.var 5) none),(.own 4 (.var 6) none),(.own 5 (.var 7) none),.any,.any,.any,.any,.any,.any]),(.own 6 (.var 8) none)],[some ([.vec [.int .i32,.int .i32] (.var 9) (.var 1) true],aF),some ([.vec [.int .i32,.int .i32] (.var 10) (.var 2) true],aF),some ([.vec [.int .i64] (.var 11) (.var 3) true],aF),some ([.vec [.int .i32,.int .i32] (.var 12) (.var 5) true],aF),some ([.vec [.int .i32,.int .i32] (.var 13) (.var 6) true],aF),some ([.vec [.int .u8] (.var 14) (.var 7) true],aF),some ([.vec [.int .i32] (.var 15) (.var 8) true],aF)],.lit true,(.tuple [(.own 7 (.var 2) (some (.var 2))),(.int .i64 (.lit 0))]),[some ([.vec [.int .i32,.int .i32] (.var 9) (.var 1) true],aF),some ([.vec [.int .i32,.int .i32] (.var 10) (.var 2) true],aF),some ([.vec [.int .i64] (.var 11) (.var 3) true],aF),some ([.vec [.int .i32,.int .i32] (.var 12) (.var 5) true],aF),some ([.vec [.int .i32,.int .i32] (.var 13) (.var 6) true],aF),some ([.vec [.int .u8] (.var 14) (.var 7) true],aF),some ([.vec [.int .i32] (.var 15) (.var 8) true],aF),some ([.vec [.int .i32] (.app 73 (.cons (.var 11) (.cons (.var 14) (.cons (.var 7) (.cons (.var 4) (.cons (.var 13) (.cons (.var 10) (.cons (.var 2) (.cons (.app 65 (.cons (.var 9) (.cons (.var 11) (.cons (.var 12) (.cons (.var 5) (.cons (.var 15) (.cons (.var 8) (.cons (.var 8) .nil)))))))) (.cons (.var 3) (.cons (.var 2) .nil))))))))))) (.var 2) true],aU+27)],(.tuple [(.own 7 (.var 2) (some (.var 2))),(.int .i64 (.lit 0))]),[some ([.vec [.int .i32,.int .i32] (.var 9) (.var 1) true],aF),some ([.vec [.int .i32,.int .i32] (.var 10) (.var 2) true],aF),some ([.vec [.int .i64] (.var 11) (.var 3) true],aF),some ([.vec [.int .i32,.int .i32] (.var 12) (.var 5) true],aF),some ([.vec [.int .i32,.int .i32] (.var 13) (.var 6) true],aF),some ([.vec [.int .u8] (.var 14) (.var 7) true],aF),some ([.vec [.int .i32] (.var 15) (.var 8) true],aF),some ([.vec [.int .i32] (.app 73 (.cons (.var 11) (.cons (.var 14) (.cons (.var 7) (.cons (.var 4) (.cons (.var 13) (.cons (.var 10) (.cons (.var 2) (.cons (.app 65 (.cons (.var 9) (.cons (.var 11) (.cons (.var 12) (.cons (.var 5) (.cons (.var 15) (.cons (.var 8) (.cons (.var 8) .nil)))))))) (.cons (.var 3) (.cons (.var 2) .nil))))))))))) (.var 2) true],aU+27)]⟩
def aGq (P:Program) (fs:List B):Res SV:=cB G GI [(0,255),(0,8),(0,8),(0,8),((-9223372036854775808),9223372036854775807),(0,8),(0,8),(0,70000),(0,8)] fs fun X=>gJ P X GB zU aMR 4000 11 aLq
theorem aIl:bI (bW Try.prog 11)=[cN (bW Try.prog 11) 0,cN (bW Try.prog 11) 1]:=by kernel_rfl
theorem aEa:bD (cN (bW Try.prog 11) 0)=[]:=by kernel_rfl
theorem aEh:bD (cN (bW Try.prog 11) 1)=(bX Try.prog 11).toList:=by kernel_rfl
end Go.Proofs.Ytdldallkeheciaa
