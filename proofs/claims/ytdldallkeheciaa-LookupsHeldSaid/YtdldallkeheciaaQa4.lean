/- What is proved: the run of a function over its ways,and what is known on each. No condition. -/
import Derived.Test.YtdldallkeheciaaQa3
import Derived.Test.YtdldallkeheciaaQa1
import Derived.Test.YtdldallkeheciaaQg4
import Derived.Test.YtdldallkeheciaaProg
set_option linter.unusedSimpArgs false
set_option linter.unusedVariables false
set_option maxRecDepth 100000
namespace Go.Proofs.Ytdldallkeheciaa
open Go Go.RowKit Sx Wi Lk
def lP (P:Program) (fs:List B):Res SV:=aMb P fs
def aMx:List B:=[]
def fK:B:=(.cmp .eq (.var 0) (.lit 1))
def aJl:List B:=aJ fK++aMx
def fZ:B:=(.cmp .lt (.lit 0) (.var 1))
def aJS:List B:=aJ fZ++aJl
def gI:B:=(.cmp .le (.var 1) (.lit 4))
def aKO:List B:=aJ gI++aJS
def iB:B:=(.or (.and (.cmp .lt (.lit 0) (.var 1)) (.cmp .le (.app 82 (.cons (.var 8) (.cons (.lit 0) (.cons (.lit 1) .nil)))) (.app 82 (.cons (.var 8) (.cons (.lit 0) (.cons (.lit 0) .nil)))))) (.or (.and (.cmp .lt (.lit 1) (.var 1)) (.cmp .le (.app 82 (.cons (.var 8) (.cons (.lit 1) (.cons (.lit 1) .nil)))) (.app 82 (.cons (.var 8) (.cons (.lit 1) (.cons (.lit 0) .nil)))))) (.or (.and (.cmp .lt (.lit 2) (.var 1)) (.cmp .le (.app 82 (.cons (.var 8) (.cons (.lit 2) (.cons (.lit 1) .nil)))) (.app 82 (.cons (.var 8) (.cons (.lit 2) (.cons (.lit 0) .nil)))))) (.and (.cmp .lt (.lit 3) (.var 1)) (.cmp .le (.app 82 (.cons (.var 8) (.cons (.lit 3) (.cons (.lit 1) .nil)))) (.app 82 (.cons (.var 8) (.cons (.lit 3) (.cons (.lit 0) .nil)))))))))
def aUd:List B:=aJ iB++aKO
def eC:SV:=(.tuple [(.agg [(.bool (.lit false)),(.bool (.and (.cmp .eq (.var 0) (.lit 1)) (.and (.cmp .lt (.lit 0) (.var 1)) (.and (.cmp .le (.var 1) (.lit 4)) (.and (.and (.or (.cmp .le (.var 1) (.lit 0)) (.cmp .lt (.app 82 (.cons (.var 8) (.cons (.lit 0) (.cons (.lit 0) .nil)))) (.app 82 (.cons (.var 8) (.cons (.lit 0) (.cons (.lit 1) .nil)))))) (.and (.or (.cmp .le (.var 1) (.lit 1)) (.cmp .lt (.app 82 (.cons (.var 8) (.cons (.lit 1) (.cons (.lit 0) .nil)))) (.app 82 (.cons (.var 8) (.cons (.lit 1) (.cons (.lit 1) .nil)))))) (.and (.or (.cmp .le (.var 1) (.lit 2)) (.cmp .lt (.app 82 (.cons (.var 8) (.cons (.lit 2) (.cons (.lit 0) .nil)))) (.app 82 (.cons (.var 8) (.cons (.lit 2) (.cons (.lit 1) .nil)))))) (.or (.cmp .le (.var 1) (.lit 3)) (.cmp .lt (.app 82 (.cons (.var 8) (.cons (.lit 3) (.cons (.lit 0) .nil)))) (.app 82 (.cons (.var 8) (.cons (.lit 3) (.cons (.lit 1) .nil))))))))) (.and (.cmp .lt (.lit 0) (.var 2)) (.and (.cmp .le (.var 2) (.lit 4)) (.and (.and (.or (.cmp .le (.var 2) (.lit 0)) (.cmp .le (.app 82 (.cons (.var 9) (.cons (.lit 0) (.cons (.lit 0) .nil)))) (.app 82 (.cons (.var 9) (.cons (.lit 0) (.cons (.lit 1) .nil)))))) (.and (.or (.cmp .le (.var 2) (.lit 1)) (.cmp .le (.app 82 (.cons (.var 9) (.cons (.lit 1) (.cons (.lit 0) .nil)))) (.app 82 (.cons (.var 9) (.cons (.lit 1) (.cons (.lit 1) .nil)))))) (.and (.or (.cmp .le (.var 2) (.lit 2)) (.cmp .le (.app 82 (.cons (.var 9) (.cons (.lit 2) (.cons (.lit 0) .nil)))) (.app 82 (.cons (.var 9) (.cons (.lit 2) (.cons (.lit 1) .nil)))))) (.or (.cmp .le (.var 2) (.lit 3)) (.cmp .le (.app 82 (.cons (.var 9) (.cons (.lit 3) (.cons (.lit 0) .nil)))) (.app 82 (.cons (.var 9) (.cons (.lit 3) (.cons (.lit 1) .nil))))))))) (.and (.cmp .eq (.var 3) (.var 1)) (.and (.and (.or (.cmp .le (.var 3) (.lit 0)) (.and (.cmp .le (.lit 1) (.app 83 (.cons (.var 10) (.cons (.lit 0) (.cons (.lit 0) .nil))))) (.cmp .le (.app 83 (.cons (.var 10) (.cons (.lit 0) (.cons (.lit 0) .nil)))) (.lit 256)))) (.and (.or (.cmp .le (.var 3) (.lit 1)) (.and (.cmp .le (.lit 1) (.app 83 (.cons (.var 10) (.cons (.lit 1) (.cons (.lit 0) .nil))))) (.cmp .le (.app 83 (.cons (.var 10) (.cons (.lit 1) (.cons (.lit 0) .nil)))) (.lit 256)))) (.and (.or (.cmp .le (.var 3) (.lit 2)) (.and (.cmp .le (.lit 1) (.app 83 (.cons (.var 10) (.cons (.lit 2) (.cons (.lit 0) .nil))))) (.cmp .le (.app 83 (.cons (.var 10) (.cons (.lit 2) (.cons (.lit 0) .nil)))) (.lit 256)))) (.and (.or (.cmp .le (.var 3) (.lit 3)) (.and (.cmp .le (.lit 1) (.app 83 (.cons (.var 10) (.cons (.lit 3) (.cons (.lit 0) .nil))))) (.cmp .le (.app 83 (.cons (.var 10) (.cons (.lit 3) (.cons (.lit 0) .nil)))) (.lit 256)))) (.and (.or (.cmp .le (.var 3) (.lit 4)) (.and (.cmp .le (.lit 1) (.app 83 (.cons (.var 10) (.cons (.lit 4) (.cons (.lit 0) .nil))))) (.cmp .le (.app 83 (.cons (.var 10) (.cons (.lit 4) (.cons (.lit 0) .nil)))) (.lit 256)))) (.and (.or (.cmp .le (.var 3) (.lit 5)) (.and (.cmp .le (.lit 1) (.app 83 (.cons (.var 10) (.cons (.lit 5) (.cons (.lit 0) .nil))))) (.cmp .le (.app 83 (.cons (.var 10) (.cons (.lit 5) (.cons (.lit 0) .nil)))) (.lit 256)))) (.and (.or (.cmp .le (.var 3) (.lit 6)) (.and (.cmp .le (.lit 1) (.app 83 (.cons (.var 10) (.cons (.lit 6) (.cons (.lit 0) .nil))))) (.cmp .le (.app 83 (.cons (.var 10) (.cons (.lit 6) (.cons (.lit 0) .nil)))) (.lit 256)))) (.or (.cmp .le (.var 3) (.lit 7)) (.and (.cmp .le (.lit 1) (.app 83 (.cons (.var 10) (.cons (.lit 7) (.cons (.lit 0) .nil))))) (.cmp .le (.app 83 (.cons (.var 10) (.cons (.lit 7) (.cons (.lit 0) .nil)))) (.lit 256))))))))))) (.and (.or (.cmp .eq (.var 4) (.lit 1)) (.or (.cmp .eq (.var 4) (.lit 2)) (.or (.cmp .eq (.var 4) (.lit 4)) (.or (.cmp .eq (.var 4) (.lit 8)) (.or (.cmp .eq (.var 4) (.lit 12)) (.cmp .eq (.var 4) (.lit 16))))))) (.and (.or (.cmp .eq (.var 5) (.lit 0)) (.cmp .eq (.var 5) (.var 1))) (.or (.cmp .eq (.var 6) (.lit 0)) (.cmp .eq (.var 6) (.var 2)))))))))))))))]),(.bool (.lit true))])
def aLE:List B:=aJ (B.neg iB)++aKO
def iN:B:=(.cmp .lt (.lit 0) (.var 2))
def aLA:List B:=aJ iN++aLE
def jT:B:=(.cmp .le (.var 2) (.lit 4))
def aJm:List B:=aJ jT++aLA
def kH:B:=(.or (.and (.cmp .lt (.lit 0) (.var 2)) (.cmp .lt (.app 82 (.cons (.var 9) (.cons (.lit 0) (.cons (.lit 1) .nil)))) (.app 82 (.cons (.var 9) (.cons (.lit 0) (.cons (.lit 0) .nil)))))) (.or (.and (.cmp .lt (.lit 1) (.var 2)) (.cmp .lt (.app 82 (.cons (.var 9) (.cons (.lit 1) (.cons (.lit 1) .nil)))) (.app 82 (.cons (.var 9) (.cons (.lit 1) (.cons (.lit 0) .nil)))))) (.or (.and (.cmp .lt (.lit 2) (.var 2)) (.cmp .lt (.app 82 (.cons (.var 9) (.cons (.lit 2) (.cons (.lit 1) .nil)))) (.app 82 (.cons (.var 9) (.cons (.lit 2) (.cons (.lit 0) .nil)))))) (.and (.cmp .lt (.lit 3) (.var 2)) (.cmp .lt (.app 82 (.cons (.var 9) (.cons (.lit 3) (.cons (.lit 1) .nil)))) (.app 82 (.cons (.var 9) (.cons (.lit 3) (.cons (.lit 0) .nil)))))))))
def aUf:List B:=aJ kH++aJm
def aMH:List B:=aJ (B.neg kH)++aJm
def lO:B:=(.cmp .eq (.var 3) (.var 1))
def aF0:List B:=aJ lO++aMH
def mJ:B:=(.or (.and (.cmp .lt (.lit 0) (.var 3)) (.or (.cmp .lt (.app 83 (.cons (.var 10) (.cons (.lit 0) (.cons (.lit 0) .nil)))) (.lit 1)) (.cmp .lt (.lit 256) (.app 83 (.cons (.var 10) (.cons (.lit 0) (.cons (.lit 0) .nil))))))) (.or (.and (.cmp .lt (.lit 1) (.var 3)) (.or (.cmp .lt (.app 83 (.cons (.var 10) (.cons (.lit 1) (.cons (.lit 0) .nil)))) (.lit 1)) (.cmp .lt (.lit 256) (.app 83 (.cons (.var 10) (.cons (.lit 1) (.cons (.lit 0) .nil))))))) (.or (.and (.cmp .lt (.lit 2) (.var 3)) (.or (.cmp .lt (.app 83 (.cons (.var 10) (.cons (.lit 2) (.cons (.lit 0) .nil)))) (.lit 1)) (.cmp .lt (.lit 256) (.app 83 (.cons (.var 10) (.cons (.lit 2) (.cons (.lit 0) .nil))))))) (.or (.and (.cmp .lt (.lit 3) (.var 3)) (.or (.cmp .lt (.app 83 (.cons (.var 10) (.cons (.lit 3) (.cons (.lit 0) .nil)))) (.lit 1)) (.cmp .lt (.lit 256) (.app 83 (.cons (.var 10) (.cons (.lit 3) (.cons (.lit 0) .nil))))))) (.or (.and (.cmp .lt (.lit 4) (.var 3)) (.or (.cmp .lt (.app 83 (.cons (.var 10) (.cons (.lit 4) (.cons (.lit 0) .nil)))) (.lit 1)) (.cmp .lt (.lit 256) (.app 83 (.cons (.var 10) (.cons (.lit 4) (.cons (.lit 0) .nil))))))) (.or (.and (.cmp .lt (.lit 5) (.var 3)) (.or (.cmp .lt (.app 83 (.cons (.var 10) (.cons (.lit 5) (.cons (.lit 0) .nil)))) (.lit 1)) (.cmp .lt (.lit 256) (.app 83 (.cons (.var 10) (.cons (.lit 5) (.cons (.lit 0) .nil))))))) (.or (.and (.cmp .lt (.lit 6) (.var 3)) (.or (.cmp .lt (.app 83 (.cons (.var 10) (.cons (.lit 6) (.cons (.lit 0) .nil)))) (.lit 1)) (.cmp .lt (.lit 256) (.app 83 (.cons (.var 10) (.cons (.lit 6) (.cons (.lit 0) .nil))))))) (.and (.cmp .lt (.lit 7) (.var 3)) (.or (.cmp .lt (.app 83 (.cons (.var 10) (.cons (.lit 7) (.cons (.lit 0) .nil)))) (.lit 1)) (.cmp .lt (.lit 256) (.app 83 (.cons (.var 10) (.cons (.lit 7) (.cons (.lit 0) .nil))))))))))))))
def aNS:List B:=aJ mJ++aF0
def aG6:List B:=aJ (B.neg mJ)++aF0
def oP:B:=(.or (.cmp .eq (.var 4) (.lit 1)) (.or (.cmp .eq (.var 4) (.lit 2)) (.or (.cmp .eq (.var 4) (.lit 4)) (.or (.cmp .eq (.var 4) (.lit 8)) (.or (.cmp .eq (.var 4) (.lit 12)) (.cmp .eq (.var 4) (.lit 16)))))))
def aGf:List B:=aJ oP++aG6
def lU:B:=(.cmp .eq (.var 5) (.lit 0))
def aHj:List B:=aJ lU++aGf
def jX:B:=(.cmp .eq (.var 6) (.lit 0))
def aNi:List B:=aJ jX++aHj
def aCW:SV:=(.tuple [(.agg [(.bool (.lit true)),(.bool (.and (.cmp .eq (.var 0) (.lit 1)) (.and (.cmp .lt (.lit 0) (.var 1)) (.and (.cmp .le (.var 1) (.lit 4)) (.and (.and (.or (.cmp .le (.var 1) (.lit 0)) (.cmp .lt (.app 82 (.cons (.var 8) (.cons (.lit 0) (.cons (.lit 0) .nil)))) (.app 82 (.cons (.var 8) (.cons (.lit 0) (.cons (.lit 1) .nil)))))) (.and (.or (.cmp .le (.var 1) (.lit 1)) (.cmp .lt (.app 82 (.cons (.var 8) (.cons (.lit 1) (.cons (.lit 0) .nil)))) (.app 82 (.cons (.var 8) (.cons (.lit 1) (.cons (.lit 1) .nil)))))) (.and (.or (.cmp .le (.var 1) (.lit 2)) (.cmp .lt (.app 82 (.cons (.var 8) (.cons (.lit 2) (.cons (.lit 0) .nil)))) (.app 82 (.cons (.var 8) (.cons (.lit 2) (.cons (.lit 1) .nil)))))) (.or (.cmp .le (.var 1) (.lit 3)) (.cmp .lt (.app 82 (.cons (.var 8) (.cons (.lit 3) (.cons (.lit 0) .nil)))) (.app 82 (.cons (.var 8) (.cons (.lit 3) (.cons (.lit 1) .nil))))))))) (.and (.cmp .lt (.lit 0) (.var 2)) (.and (.cmp .le (.var 2) (.lit 4)) (.and (.and (.or (.cmp .le (.var 2) (.lit 0)) (.cmp .le (.app 82 (.cons (.var 9) (.cons (.lit 0) (.cons (.lit 0) .nil)))) (.app 82 (.cons (.var 9) (.cons (.lit 0) (.cons (.lit 1) .nil)))))) (.and (.or (.cmp .le (.var 2) (.lit 1)) (.cmp .le (.app 82 (.cons (.var 9) (.cons (.lit 1) (.cons (.lit 0) .nil)))) (.app 82 (.cons (.var 9) (.cons (.lit 1) (.cons (.lit 1) .nil)))))) (.and (.or (.cmp .le (.var 2) (.lit 2)) (.cmp .le (.app 82 (.cons (.var 9) (.cons (.lit 2) (.cons (.lit 0) .nil)))) (.app 82 (.cons (.var 9) (.cons (.lit 2) (.cons (.lit 1) .nil)))))) (.or (.cmp .le (.var 2) (.lit 3)) (.cmp .le (.app 82 (.cons (.var 9) (.cons (.lit 3) (.cons (.lit 0) .nil)))) (.app 82 (.cons (.var 9) (.cons (.lit 3) (.cons (.lit 1) .nil))))))))) (.and (.cmp .eq (.var 3) (.var 1)) (.and (.and (.or (.cmp .le (.var 3) (.lit 0)) (.and (.cmp .le (.lit 1) (.app 83 (.cons (.var 10) (.cons (.lit 0) (.cons (.lit 0) .nil))))) (.cmp .le (.app 83 (.cons (.var 10) (.cons (.lit 0) (.cons (.lit 0) .nil)))) (.lit 256)))) (.and (.or (.cmp .le (.var 3) (.lit 1)) (.and (.cmp .le (.lit 1) (.app 83 (.cons (.var 10) (.cons (.lit 1) (.cons (.lit 0) .nil))))) (.cmp .le (.app 83 (.cons (.var 10) (.cons (.lit 1) (.cons (.lit 0) .nil)))) (.lit 256)))) (.and (.or (.cmp .le (.var 3) (.lit 2)) (.and (.cmp .le (.lit 1) (.app 83 (.cons (.var 10) (.cons (.lit 2) (.cons (.lit 0) .nil))))) (.cmp .le (.app 83 (.cons (.var 10) (.cons (.lit 2) (.cons (.lit 0) .nil)))) (.lit 256)))) (.and (.or (.cmp .le (.var 3) (.lit 3)) (.and (.cmp .le (.lit 1) (.app 83 (.cons (.var 10) (.cons (.lit 3) (.cons (.lit 0) .nil))))) (.cmp .le (.app 83 (.cons (.var 10) (.cons (.lit 3) (.cons (.lit 0) .nil)))) (.lit 256)))) (.and (.or (.cmp .le (.var 3) (.lit 4)) (.and (.cmp .le (.lit 1) (.app 83 (.cons (.var 10) (.cons (.lit 4) (.cons (.lit 0) .nil))))) (.cmp .le (.app 83 (.cons (.var 10) (.cons (.lit 4) (.cons (.lit 0) .nil)))) (.lit 256)))) (.and (.or (.cmp .le (.var 3) (.lit 5)) (.and (.cmp .le (.lit 1) (.app 83 (.cons (.var 10) (.cons (.lit 5) (.cons (.lit 0) .nil))))) (.cmp .le (.app 83 (.cons (.var 10) (.cons (.lit 5) (.cons (.lit 0) .nil)))) (.lit 256)))) (.and (.or (.cmp .le (.var 3) (.lit 6)) (.and (.cmp .le (.lit 1) (.app 83 (.cons (.var 10) (.cons (.lit 6) (.cons (.lit 0) .nil))))) (.cmp .le (.app 83 (.cons (.var 10) (.cons (.lit 6) (.cons (.lit 0) .nil)))) (.lit 256)))) (.or (.cmp .le (.var 3) (.lit 7)) (.and (.cmp .le (.lit 1) (.app 83 (.cons (.var 10) (.cons (.lit 7) (.cons (.lit 0) .nil))))) (.cmp .le (.app 83 (.cons (.var 10) (.cons (.lit 7) (.cons (.lit 0) .nil)))) (.lit 256))))))))))) (.and (.or (.cmp .eq (.var 4) (.lit 1)) (.or (.cmp .eq (.var 4) (.lit 2)) (.or (.cmp .eq (.var 4) (.lit 4)) (.or (.cmp .eq (.var 4) (.lit 8)) (.or (.cmp .eq (.var 4) (.lit 12)) (.cmp .eq (.var 4) (.lit 16))))))) (.and (.or (.cmp .eq (.var 5) (.lit 0)) (.cmp .eq (.var 5) (.var 1))) (.or (.cmp .eq (.var 6) (.lit 0)) (.cmp .eq (.var 6) (.var 2)))))))))))))))]),(.bool (.lit true))])
def aOP:List B:=aJ (B.neg jX)++aHj
def aBA:SV:=(.tuple [(.agg [(.bool (.cmp .eq (.var 6) (.var 2))),(.bool (.and (.cmp .eq (.var 0) (.lit 1)) (.and (.cmp .lt (.lit 0) (.var 1)) (.and (.cmp .le (.var 1) (.lit 4)) (.and (.and (.or (.cmp .le (.var 1) (.lit 0)) (.cmp .lt (.app 82 (.cons (.var 8) (.cons (.lit 0) (.cons (.lit 0) .nil)))) (.app 82 (.cons (.var 8) (.cons (.lit 0) (.cons (.lit 1) .nil)))))) (.and (.or (.cmp .le (.var 1) (.lit 1)) (.cmp .lt (.app 82 (.cons (.var 8) (.cons (.lit 1) (.cons (.lit 0) .nil)))) (.app 82 (.cons (.var 8) (.cons (.lit 1) (.cons (.lit 1) .nil)))))) (.and (.or (.cmp .le (.var 1) (.lit 2)) (.cmp .lt (.app 82 (.cons (.var 8) (.cons (.lit 2) (.cons (.lit 0) .nil)))) (.app 82 (.cons (.var 8) (.cons (.lit 2) (.cons (.lit 1) .nil)))))) (.or (.cmp .le (.var 1) (.lit 3)) (.cmp .lt (.app 82 (.cons (.var 8) (.cons (.lit 3) (.cons (.lit 0) .nil)))) (.app 82 (.cons (.var 8) (.cons (.lit 3) (.cons (.lit 1) .nil))))))))) (.and (.cmp .lt (.lit 0) (.var 2)) (.and (.cmp .le (.var 2) (.lit 4)) (.and (.and (.or (.cmp .le (.var 2) (.lit 0)) (.cmp .le (.app 82 (.cons (.var 9) (.cons (.lit 0) (.cons (.lit 0) .nil)))) (.app 82 (.cons (.var 9) (.cons (.lit 0) (.cons (.lit 1) .nil)))))) (.and (.or (.cmp .le (.var 2) (.lit 1)) (.cmp .le (.app 82 (.cons (.var 9) (.cons (.lit 1) (.cons (.lit 0) .nil)))) (.app 82 (.cons (.var 9) (.cons (.lit 1) (.cons (.lit 1) .nil)))))) (.and (.or (.cmp .le (.var 2) (.lit 2)) (.cmp .le (.app 82 (.cons (.var 9) (.cons (.lit 2) (.cons (.lit 0) .nil)))) (.app 82 (.cons (.var 9) (.cons (.lit 2) (.cons (.lit 1) .nil)))))) (.or (.cmp .le (.var 2) (.lit 3)) (.cmp .le (.app 82 (.cons (.var 9) (.cons (.lit 3) (.cons (.lit 0) .nil)))) (.app 82 (.cons (.var 9) (.cons (.lit 3) (.cons (.lit 1) .nil))))))))) (.and (.cmp .eq (.var 3) (.var 1)) (.and (.and (.or (.cmp .le (.var 3) (.lit 0)) (.and (.cmp .le (.lit 1) (.app 83 (.cons (.var 10) (.cons (.lit 0) (.cons (.lit 0) .nil))))) (.cmp .le (.app 83 (.cons (.var 10) (.cons (.lit 0) (.cons (.lit 0) .nil)))) (.lit 256)))) (.and (.or (.cmp .le (.var 3) (.lit 1)) (.and (.cmp .le (.lit 1) (.app 83 (.cons (.var 10) (.cons (.lit 1) (.cons (.lit 0) .nil))))) (.cmp .le (.app 83 (.cons (.var 10) (.cons (.lit 1) (.cons (.lit 0) .nil)))) (.lit 256)))) (.and (.or (.cmp .le (.var 3) (.lit 2)) (.and (.cmp .le (.lit 1) (.app 83 (.cons (.var 10) (.cons (.lit 2) (.cons (.lit 0) .nil))))) (.cmp .le (.app 83 (.cons (.var 10) (.cons (.lit 2) (.cons (.lit 0) .nil)))) (.lit 256)))) (.and (.or (.cmp .le (.var 3) (.lit 3)) (.and (.cmp .le (.lit 1) (.app 83 (.cons (.var 10) (.cons (.lit 3) (.cons (.lit 0) .nil))))) (.cmp .le (.app 83 (.cons (.var 10) (.cons (.lit 3) (.cons (.lit 0) .nil)))) (.lit 256)))) (.and (.or (.cmp .le (.var 3) (.lit 4)) (.and (.cmp .le (.lit 1) (.app 83 (.cons (.var 10) (.cons (.lit 4) (.cons (.lit 0) .nil))))) (.cmp .le (.app 83 (.cons (.var 10) (.cons (.lit 4) (.cons (.lit 0) .nil)))) (.lit 256)))) (.and (.or (.cmp .le (.var 3) (.lit 5)) (.and (.cmp .le (.lit 1) (.app 83 (.cons (.var 10) (.cons (.lit 5) (.cons (.lit 0) .nil))))) (.cmp .le (.app 83 (.cons (.var 10) (.cons (.lit 5) (.cons (.lit 0) .nil)))) (.lit 256)))) (.and (.or (.cmp .le (.var 3) (.lit 6)) (.and (.cmp .le (.lit 1) (.app 83 (.cons (.var 10) (.cons (.lit 6) (.cons (.lit 0) .nil))))) (.cmp .le (.app 83 (.cons (.var 10) (.cons (.lit 6) (.cons (.lit 0) .nil)))) (.lit 256)))) (.or (.cmp .le (.var 3) (.lit 7)) (.and (.cmp .le (.lit 1) (.app 83 (.cons (.var 10) (.cons (.lit 7) (.cons (.lit 0) .nil))))) (.cmp .le (.app 83 (.cons (.var 10) (.cons (.lit 7) (.cons (.lit 0) .nil)))) (.lit 256))))))))))) (.and (.or (.cmp .eq (.var 4) (.lit 1)) (.or (.cmp .eq (.var 4) (.lit 2)) (.or (.cmp .eq (.var 4) (.lit 4)) (.or (.cmp .eq (.var 4) (.lit 8)) (.or (.cmp .eq (.var 4) (.lit 12)) (.cmp .eq (.var 4) (.lit 16))))))) (.and (.or (.cmp .eq (.var 5) (.lit 0)) (.cmp .eq (.var 5) (.var 1))) (.or (.cmp .eq (.var 6) (.lit 0)) (.cmp .eq (.var 6) (.var 2)))))))))))))))]),(.bool (.lit true))])
def aF2:List B:=aJ (B.neg lU)++aGf
def qC:B:=(.cmp .eq (.var 5) (.var 1))
def aFH:List B:=aJ qC++aF2
def aQ5:List B:=aJ jX++aFH
def aPM:List B:=aJ (B.neg jX)++aFH
def aQj:List B:=aJ (B.neg qC)++aF2
def aRF:List B:=aJ (B.neg oP)++aG6
def aQb:List B:=aJ (B.neg lO)++aMH
def aRf:List B:=aJ (B.neg jT)++aLA
def aNw:List B:=aJ (B.neg iN)++aLE
def aNH:List B:=aJ (B.neg gI)++aJS
def aPr:List B:=aJ (B.neg fZ)++aJl
def aNY:List B:=aJ (B.neg fK)++aMx
theorem aTe:lP Try.prog aUd = .ok eC:=by kernel_rfl
theorem aT4:lP Try.prog aUf = .ok eC:=by kernel_rfl
theorem aPD:lP Try.prog aNS = .ok eC:=by kernel_rfl
theorem aNG:lP Try.prog aNi = .ok aCW:=by kernel_rfl
theorem aOV:lP Try.prog aOP = .ok aBA:=by kernel_rfl
theorem aO7:lP Try.prog aQ5 = .ok aCW:=by kernel_rfl
theorem aNE:lP Try.prog aPM = .ok aBA:=by kernel_rfl
theorem aPg:lP Try.prog aQj = .ok eC:=by kernel_rfl
theorem aR3:lP Try.prog aRF = .ok eC:=by kernel_rfl
theorem aQv:lP Try.prog aQb = .ok eC:=by kernel_rfl
theorem aRs:lP Try.prog aRf = .ok eC:=by kernel_rfl
theorem aRr:lP Try.prog aNw = .ok eC:=by kernel_rfl
theorem aOW:lP Try.prog aNH = .ok eC:=by kernel_rfl
theorem aSc:lP Try.prog aPr = .ok eC:=by kernel_rfl
theorem aPa:lP Try.prog aNY = .ok eC:=by kernel_rfl
end Go.Proofs.Ytdldallkeheciaa
namespace Go.Proofs.Ytdldallkeheciaa
open Go Go.RowKit Sx Wi Lk
set_option maxHeartbeats 8000000 in
set_option maxRecDepth 100000 in
theorem aUb (x0 x1 x2 x3 x4 x5 x6 x7 l0 l1 l2 l3 l4 l5:Int) (b0:0≤x0∧x0≤255) (b1:0≤x1∧x1≤8) (b2:0≤x2∧x2≤8) (b3:0≤x3∧x3≤8) (b4:(-9223372036854775808)≤x4∧x4≤9223372036854775807) (b5:0≤x5∧x5≤8) (b6:0≤x6∧x6≤8) (b7:0≤x7∧x7≤70000):fX Try.prog G GB 40 aU9 (cQ ([x0,x1,x2,x3,x4,x5,x6,x7]++[l0,l1,l2,l3,l4,l5])):=by
 refine cY (lp:=dO) (run:=aMb Try.prog) (fun _=>rfl) fits (bP (xs:=[x0,x1,x2,x3,x4,x5,x6,x7]) (ls:=[l0,l1,l2,l3,l4,l5]) (by exact⟨b0,b1,b2,b3,b4,b5,b6,b7,trivial⟩)) eU (fun X hX hG=>aDS hX hG) (fun X hX hG fn c hf hc=>cF) rfl ?_
 refine aG fK (fun h0=>?_) (fun h0=>?_)
 rotate_left
 ·skip
  refine aH aPa ?_
  unfold fK at h0;unfold eC;simp only[bK];refine⟨rfl,?_⟩;simp only[aI];refine⟨?_,trivial⟩;show _=B.den G _ bU;unfold bU;simp only[aZ,eX,cD,h0,Bool.and_true,Bool.true_and,Bool.false_and,Bool.and_false,Bool.not_false,Bool.not_true,Bool.or_true,Bool.true_or,Bool.or_false,Bool.false_or]<;>(try simp only[hJ,aZ,cD,h0,Bool.and_true,Bool.true_and,Bool.false_and,Bool.and_false,Bool.not_false,Bool.not_true,Bool.or_true,Bool.true_or,Bool.or_false,Bool.false_or])
 refine aG fZ (fun h1=>?_) (fun h1=>?_)
 rotate_left
 ·skip
  refine aH aSc ?_
  unfold fK at h0;unfold fZ at h1;unfold eC;simp only[bK];refine⟨rfl,?_⟩;simp only[aI];refine⟨?_,trivial⟩;show _=B.den G _ bU;unfold bU;simp only[aZ,eX,cD,h0,h1,Bool.and_true,Bool.true_and,Bool.false_and,Bool.and_false,Bool.not_false,Bool.not_true,Bool.or_true,Bool.true_or,Bool.or_false,Bool.false_or]<;>(try simp only[hJ,aZ,cD,h0,h1,Bool.and_true,Bool.true_and,Bool.false_and,Bool.and_false,Bool.not_false,Bool.not_true,Bool.or_true,Bool.true_or,Bool.or_false,Bool.false_or])
 refine aG gI (fun h2=>?_) (fun h2=>?_)
 rotate_left
 ·skip
  refine aH aOW ?_
  unfold fK at h0;unfold fZ at h1;unfold gI at h2;unfold eC;simp only[bK];refine⟨rfl,?_⟩;simp only[aI];refine⟨?_,trivial⟩;show _=B.den G _ bU;unfold bU;simp only[aZ,eX,cD,h0,h1,h2,Bool.and_true,Bool.true_and,Bool.false_and,Bool.and_false,Bool.not_false,Bool.not_true,Bool.or_true,Bool.true_or,Bool.or_false,Bool.false_or]<;>(try simp only[hJ,aZ,cD,h0,h1,h2,Bool.and_true,Bool.true_and,Bool.false_and,Bool.and_false,Bool.not_false,Bool.not_true,Bool.or_true,Bool.true_or,Bool.or_false,Bool.false_or])
 refine aG iB (fun h3=>?_) (fun h3=>?_)
 ·skip
  refine aH aTe ?_
  unfold fK at h0;unfold fZ at h1;unfold gI at h2;unfold iB at h3;unfold eC;simp only[bK];refine⟨rfl,?_⟩;simp only[aI];refine⟨?_,trivial⟩;show _=B.den G _ bU;unfold bU;simp only[aZ,eX,cD,h0,h1,h2,h3,Bool.and_true,Bool.true_and,Bool.false_and,Bool.and_false,Bool.not_false,Bool.not_true,Bool.or_true,Bool.true_or,Bool.or_false,Bool.false_or]<;>(try simp only[hJ,aZ,cD,h0,h1,h2,h3,Bool.and_true,Bool.true_and,Bool.false_and,Bool.and_false,Bool.not_false,Bool.not_true,Bool.or_true,Bool.true_or,Bool.or_false,Bool.false_or])
 refine aG iN (fun h4=>?_) (fun h4=>?_)
 rotate_left
 ·skip
  refine aH aRr ?_
  unfold fK at h0;unfold fZ at h1;unfold gI at h2;unfold iB at h3;unfold iN at h4;unfold eC;simp only[bK];refine⟨rfl,?_⟩;simp only[aI];refine⟨?_,trivial⟩;show _=B.den G _ bU;unfold bU;simp only[aZ,eX,cD,h0,h1,h2,h3,h4,Bool.and_true,Bool.true_and,Bool.false_and,Bool.and_false,Bool.not_false,Bool.not_true,Bool.or_true,Bool.true_or,Bool.or_false,Bool.false_or]<;>(try simp only[hJ,aZ,cD,h0,h1,h2,h3,h4,Bool.and_true,Bool.true_and,Bool.false_and,Bool.and_false,Bool.not_false,Bool.not_true,Bool.or_true,Bool.true_or,Bool.or_false,Bool.false_or])
 refine aG jT (fun h5=>?_) (fun h5=>?_)
 rotate_left
 ·skip
  refine aH aRs ?_
  unfold fK at h0;unfold fZ at h1;unfold gI at h2;unfold iB at h3;unfold iN at h4;unfold jT at h5;unfold eC;simp only[bK];refine⟨rfl,?_⟩;simp only[aI];refine⟨?_,trivial⟩;show _=B.den G _ bU;unfold bU;simp only[aZ,eX,cD,h0,h1,h2,h3,h4,h5,Bool.and_true,Bool.true_and,Bool.false_and,Bool.and_false,Bool.not_false,Bool.not_true,Bool.or_true,Bool.true_or,Bool.or_false,Bool.false_or]<;>(try simp only[hJ,aZ,cD,h0,h1,h2,h3,h4,h5,Bool.and_true,Bool.true_and,Bool.false_and,Bool.and_false,Bool.not_false,Bool.not_true,Bool.or_true,Bool.true_or,Bool.or_false,Bool.false_or])
 refine aG kH (fun h6=>?_) (fun h6=>?_)
 ·skip
  refine aH aT4 ?_
  unfold fK at h0;unfold fZ at h1;unfold gI at h2;unfold iB at h3;unfold iN at h4;unfold jT at h5;unfold kH at h6;unfold eC;simp only[bK];refine⟨rfl,?_⟩;simp only[aI];refine⟨?_,trivial⟩;show _=B.den G _ bU;unfold bU;simp only[aZ,eX,cD,h0,h1,h2,h3,h4,h5,h6,Bool.and_true,Bool.true_and,Bool.false_and,Bool.and_false,Bool.not_false,Bool.not_true,Bool.or_true,Bool.true_or,Bool.or_false,Bool.false_or]<;>(try simp only[hJ,aZ,cD,h0,h1,h2,h3,h4,h5,h6,Bool.and_true,Bool.true_and,Bool.false_and,Bool.and_false,Bool.not_false,Bool.not_true,Bool.or_true,Bool.true_or,Bool.or_false,Bool.false_or])
 refine aG lO (fun h7=>?_) (fun h7=>?_)
 rotate_left
 ·skip
  refine aH aQv ?_
  unfold fK at h0;unfold fZ at h1;unfold gI at h2;unfold iB at h3;unfold iN at h4;unfold jT at h5;unfold kH at h6;unfold lO at h7;unfold eC;simp only[bK];refine⟨rfl,?_⟩;simp only[aI];refine⟨?_,trivial⟩;show _=B.den G _ bU;unfold bU;simp only[aZ,eX,cD,h0,h1,h2,h3,h4,h5,h6,h7,Bool.and_true,Bool.true_and,Bool.false_and,Bool.and_false,Bool.not_false,Bool.not_true,Bool.or_true,Bool.true_or,Bool.or_false,Bool.false_or]<;>(try simp only[hJ,aZ,cD,h0,h1,h2,h3,h4,h5,h6,h7,Bool.and_true,Bool.true_and,Bool.false_and,Bool.and_false,Bool.not_false,Bool.not_true,Bool.or_true,Bool.true_or,Bool.or_false,Bool.false_or])
 refine aG mJ (fun h8=>?_) (fun h8=>?_)
 ·skip
  refine aH aPD ?_
  unfold fK at h0;unfold fZ at h1;unfold gI at h2;unfold iB at h3;unfold iN at h4;unfold jT at h5;unfold kH at h6;unfold lO at h7;unfold mJ at h8;unfold eC;simp only[bK];refine⟨rfl,?_⟩;simp only[aI];refine⟨?_,trivial⟩;show _=B.den G _ bU;unfold bU;simp only[aZ,eX,cD,h0,h1,h2,h3,h4,h5,h6,h7,h8,Bool.and_true,Bool.true_and,Bool.false_and,Bool.and_false,Bool.not_false,Bool.not_true,Bool.or_true,Bool.true_or,Bool.or_false,Bool.false_or]<;>(try simp only[hJ,aZ,cD,h0,h1,h2,h3,h4,h5,h6,h7,h8,Bool.and_true,Bool.true_and,Bool.false_and,Bool.and_false,Bool.not_false,Bool.not_true,Bool.or_true,Bool.true_or,Bool.or_false,Bool.false_or])
 refine aG oP (fun h9=>?_) (fun h9=>?_)
 rotate_left
 ·skip
  refine aH aR3 ?_
  unfold fK at h0;unfold fZ at h1;unfold gI at h2;unfold iB at h3;unfold iN at h4;unfold jT at h5;unfold kH at h6;unfold lO at h7;unfold mJ at h8;unfold oP at h9;unfold eC;simp only[bK];refine⟨rfl,?_⟩;simp only[aI];refine⟨?_,trivial⟩;show _=B.den G _ bU;unfold bU;simp only[aZ,eX,cD,h0,h1,h2,h3,h4,h5,h6,h7,h8,h9,Bool.and_true,Bool.true_and,Bool.false_and,Bool.and_false,Bool.not_false,Bool.not_true,Bool.or_true,Bool.true_or,Bool.or_false,Bool.false_or]<;>(try simp only[hJ,aZ,cD,h0,h1,h2,h3,h4,h5,h6,h7,h8,h9,Bool.and_true,Bool.true_and,Bool.false_and,Bool.and_false,Bool.not_false,Bool.not_true,Bool.or_true,Bool.true_or,Bool.or_false,Bool.false_or])
 refine aG lU (fun h10=>?_) (fun h10=>?_)
 ·skip
  refine aG jX (fun h11=>?_) (fun h11=>?_)
  ·skip
   refine aH aNG ?_
   unfold fK at h0;unfold fZ at h1;unfold gI at h2;unfold iB at h3;unfold iN at h4;unfold jT at h5;unfold kH at h6;unfold lO at h7;unfold mJ at h8;unfold oP at h9;unfold lU at h10;unfold jX at h11;unfold aCW;simp only[bK];refine⟨rfl,?_⟩;simp only[aI];refine⟨?_,trivial⟩;show _=B.den G _ bU;unfold bU;simp only[aZ,eX,cD,h0,h1,h2,h3,h4,h5,h6,h7,h8,h9,h10,h11,Bool.and_true,Bool.true_and,Bool.false_and,Bool.and_false,Bool.not_false,Bool.not_true,Bool.or_true,Bool.true_or,Bool.or_false,Bool.false_or]<;>(try simp only[hJ,aZ,cD,h0,h1,h2,h3,h4,h5,h6,h7,h8,h9,h10,h11,Bool.and_true,Bool.true_and,Bool.false_and,Bool.and_false,Bool.not_false,Bool.not_true,Bool.or_true,Bool.true_or,Bool.or_false,Bool.false_or])
  refine aH aOV ?_
  unfold fK at h0;unfold fZ at h1;unfold gI at h2;unfold iB at h3;unfold iN at h4;unfold jT at h5;unfold kH at h6;unfold lO at h7;unfold mJ at h8;unfold oP at h9;unfold lU at h10;unfold jX at h11;unfold aBA;simp only[bK];refine⟨rfl,?_⟩;simp only[aI];refine⟨?_,trivial⟩;show _=B.den G _ bU;unfold bU;simp only[aZ,eX,cD,h0,h1,h2,h3,h4,h5,h6,h7,h8,h9,h10,h11,Bool.and_true,Bool.true_and,Bool.false_and,Bool.and_false,Bool.not_false,Bool.not_true,Bool.or_true,Bool.true_or,Bool.or_false,Bool.false_or]<;>(try simp only[hJ,aZ,cD,h0,h1,h2,h3,h4,h5,h6,h7,h8,h9,h10,h11,Bool.and_true,Bool.true_and,Bool.false_and,Bool.and_false,Bool.not_false,Bool.not_true,Bool.or_true,Bool.true_or,Bool.or_false,Bool.false_or])
 refine aG qC (fun h11=>?_) (fun h11=>?_)
 rotate_left
 ·skip
  refine aH aPg ?_
  unfold fK at h0;unfold fZ at h1;unfold gI at h2;unfold iB at h3;unfold iN at h4;unfold jT at h5;unfold kH at h6;unfold lO at h7;unfold mJ at h8;unfold oP at h9;unfold lU at h10;unfold qC at h11;unfold eC;simp only[bK];refine⟨rfl,?_⟩;simp only[aI];refine⟨?_,trivial⟩;show _=B.den G _ bU;unfold bU;simp only[aZ,eX,cD,h0,h1,h2,h3,h4,h5,h6,h7,h8,h9,h10,h11,Bool.and_true,Bool.true_and,Bool.false_and,Bool.and_false,Bool.not_false,Bool.not_true,Bool.or_true,Bool.true_or,Bool.or_false,Bool.false_or]<;>(try simp only[hJ,aZ,cD,h0,h1,h2,h3,h4,h5,h6,h7,h8,h9,h10,h11,Bool.and_true,Bool.true_and,Bool.false_and,Bool.and_false,Bool.not_false,Bool.not_true,Bool.or_true,Bool.true_or,Bool.or_false,Bool.false_or])
 refine aG jX (fun h12=>?_) (fun h12=>?_)
 ·skip
  refine aH aO7 ?_
  unfold fK at h0;unfold fZ at h1;unfold gI at h2;unfold iB at h3;unfold iN at h4;unfold jT at h5;unfold kH at h6;unfold lO at h7;unfold mJ at h8;unfold oP at h9;unfold lU at h10;unfold qC at h11;unfold jX at h12;unfold aCW;simp only[bK];refine⟨rfl,?_⟩;simp only[aI];refine⟨?_,trivial⟩;show _=B.den G _ bU;unfold bU;simp only[aZ,eX,cD,h0,h1,h2,h3,h4,h5,h6,h7,h8,h9,h10,h11,h12,Bool.and_true,Bool.true_and,Bool.false_and,Bool.and_false,Bool.not_false,Bool.not_true,Bool.or_true,Bool.true_or,Bool.or_false,Bool.false_or]<;>(try simp only[hJ,aZ,cD,h0,h1,h2,h3,h4,h5,h6,h7,h8,h9,h10,h11,h12,Bool.and_true,Bool.true_and,Bool.false_and,Bool.and_false,Bool.not_false,Bool.not_true,Bool.or_true,Bool.true_or,Bool.or_false,Bool.false_or])
 refine aH aNE ?_
 unfold fK at h0;unfold fZ at h1;unfold gI at h2;unfold iB at h3;unfold iN at h4;unfold jT at h5;unfold kH at h6;unfold lO at h7;unfold mJ at h8;unfold oP at h9;unfold lU at h10;unfold qC at h11;unfold jX at h12;unfold aBA;simp only[bK];refine⟨rfl,?_⟩;simp only[aI];refine⟨?_,trivial⟩;show _=B.den G _ bU;unfold bU;simp only[aZ,eX,cD,h0,h1,h2,h3,h4,h5,h6,h7,h8,h9,h10,h11,h12,Bool.and_true,Bool.true_and,Bool.false_and,Bool.and_false,Bool.not_false,Bool.not_true,Bool.or_true,Bool.true_or,Bool.or_false,Bool.false_or]<;>(try simp only[hJ,aZ,cD,h0,h1,h2,h3,h4,h5,h6,h7,h8,h9,h10,h11,h12,Bool.and_true,Bool.true_and,Bool.false_and,Bool.and_false,Bool.not_false,Bool.not_true,Bool.or_true,Bool.true_or,Bool.or_false,Bool.false_or])
def aDo:Ctx→List SV→aM→Res (SV × aM):=dW GB [(0,255),(0,8),(0,8),(0,8),((-9223372036854775808),9223372036854775807),(0,8),(0,8),(0,70000)] 6 (.lit true) aU9
theorem aWd {X:Ctx} {ρ:Nat→Int} (hX:X.Ok ρ) (hG:X.G=G):eV Try.prog X ρ GB 40 aDo:=by
 obtain⟨XG,XI,XV,XF⟩:=X
 simp only at hG
 subst hG
 refine cU hX ?_
 intro xs ls hw hl hp
 obtain⟨x0,y0,e0,b0,h0⟩:=aY hw
 obtain⟨x1,y1,e1,b1,h1⟩:=aY h0
 obtain⟨x2,y2,e2,b2,h2⟩:=aY h1
 obtain⟨x3,y3,e3,b3,h3⟩:=aY h2
 obtain⟨x4,y4,e4,b4,h4⟩:=aY h3
 obtain⟨x5,y5,e5,b5,h5⟩:=aY h4
 obtain⟨x6,y6,e6,b6,h6⟩:=aY h5
 obtain⟨x7,y7,e7,b7,h7⟩:=aY h6
 have e8:=jJ h7
 subst e8 e7 e6 e5 e4 e3 e2 e1 e0
 obtain⟨l0,z0,q0,hl0⟩:=bJ hl
 obtain⟨l1,z1,q1,hl1⟩:=bJ hl0
 obtain⟨l2,z2,q2,hl2⟩:=bJ hl1
 obtain⟨l3,z3,q3,hl3⟩:=bJ hl2
 obtain⟨l4,z4,q4,hl4⟩:=bJ hl3
 obtain⟨l5,z5,q5,hl5⟩:=bJ hl4
 have q6:=List.length_eq_zero_iff.1 hl5
 subst q6 q5 q4 q3 q2 q1 q0
 exact aUb x0 x1 x2 x3 x4 x5 x6 x7 l0 l1 l2 l3 l4 l5 b0 b1 b2 b3 b4 b5 b6 b7
def aA5:Ctx→List SV→aM→Res (SV × aM):=rW aDo
theorem aUU {X:Ctx} {ρ:Nat→Int} (hX:X.Ok ρ) (hG:X.G=G):eV Try.prog X ρ GB 40 aA5:=nH hX (aWd hX hG)
def aJf:bA:=fQ 40 aA5 aJH
theorem aDR {X:Ctx} {ρ:Nat→Int} (hX:X.Ok ρ) (hG:X.G=G):fF Try.prog X ρ GB aJf:=dN (aUU hX hG) (aDS hX hG)
def dM:B:=(.and bU (.and (.cmp .le (.app 63 (.cons (.var 2) (.cons (.var 4) (.cons (.var 10) (.cons (.var 3) .nil))))) (.lit 524288)) (.cmp .le (.app 63 (.cons (.var 2) (.cons (.var 4) (.cons (.var 10) (.cons (.var 3) .nil))))) (.op .mul (.lit 8) (.var 7)))))
def aTK:FunS:=⟨[(.agg [(.int .u8 (.var 0)),(.own 0 (.var 1) none),(.own 1 (.var 2) none),(.own 2 (.var 3) none),(.int .i64 (.var 4)),(.own 3 (.var 5) none),(.own 4 (.var 6) none),(.own 5 (.var 7) none),.any,.any,.any,.any,.any,.any])],[some ([.vec [.int .i32,.int .i32] (.var 8) (.var 1) true],aF),some ([.vec [.int .i32,.int .i32] (.var 9) (.var 2) true],aF),some ([.vec [.int .i64] (.var 10) (.var 3) true],aF),some ([.vec [.int .i32,.int .i32] (.var 11) (.var 5) true],aF),some ([.vec [.int .i32,.int .i32] (.var 12) (.var 6) true],aF),some ([.vec [.int .u8] (.var 13) (.var 7) true],aF)],dM,(.int .i64 (.lit 0)),[some ([.vec [.int .i32,.int .i32] (.var 8) (.var 1) true],aF),some ([.vec [.int .i32,.int .i32] (.var 9) (.var 2) true],aF),some ([.vec [.int .i64] (.var 10) (.var 3) true],aF),some ([.vec [.int .i32,.int .i32] (.var 11) (.var 5) true],aF),some ([.vec [.int .i32,.int .i32] (.var 12) (.var 6) true],aF),some ([.vec [.int .u8] (.var 13) (.var 7) true],aF)],(.int .i64 (.app 72 (.cons (.var 0) (.cons (.var 1) (.cons (.var 2) (.cons (.var 3) (.cons (.var 4) (.cons (.var 5) (.cons (.var 6) (.cons (.var 7) (.cons (.var 8) (.cons (.var 9) (.cons (.var 10) .nil))))))))))))),[some ([.vec [.int .i32,.int .i32] (.var 8) (.var 1) true],aF),some ([.vec [.int .i32,.int .i32] (.var 9) (.var 2) true],aF),some ([.vec [.int .i64] (.var 10) (.var 3) true],aF),some ([.vec [.int .i32,.int .i32] (.var 11) (.var 5) true],aF),some ([.vec [.int .i32,.int .i32] (.var 12) (.var 6) true],aF),some ([.vec [.int .u8] (.var 13) (.var 7) true],aF)]⟩
def aKm (P:Program) (fs:List B):Res SV:=cA G GI [(0,255),(0,8),(0,8),(0,8),((-9223372036854775808),9223372036854775807),(0,8),(0,8),(0,70000)] fs fun X=>gJ P X GB aJf dO 4000 13 aTK
end Go.Proofs.Ytdldallkeheciaa
set_option maxRecDepth 100000
namespace Go.Proofs.Ytdldallkeheciaa
open Go Go.RowKit Sx Wi Lk
def fH (P:Program) (fs:List B):Res SV:=aKm P fs
def aK8:List B:=[]
def bY:B:=(id bU)
def aUt:List B:=aJ bY++aK8
def cC:B:=(.cmp .le (.lit 1) (.var 4))
def aVu:List B:=aJ cC++aUt
def cE:B:=(.cmp .le (.var 4) (.lit 16))
def aSU:List B:=aJ cE++aVu
def cH:B:=(.cmp .le (.lit 1) (.var 3))
def aTC:List B:=aJ cH++aSU
def cJ:B:=(.cmp .le (.var 3) (.lit 4))
def aJz:List B:=aJ cJ++aTC
def cI:B:=(.cmp .lt (.lit 524288) (.wrap .i64 (.op .mul (.op .mul (.var 2) (.var 4)) (.app 83 (.cons (.var 10) (.cons (.lit 0) (.cons (.lit 0) .nil)))))))
def aVc:List B:=aJ cI++aJz
def kL:B:=(.cmp .le (.op .add (.wrap .i64 (.op .mul (.op .mul (.var 2) (.var 4)) (.app 83 (.cons (.var 10) (.cons (.lit 0) (.cons (.lit 0) .nil)))))) (.lit 7)) (.lit 9223372036854775807))
def aJK:List B:=aJ kL++aVc
def kM:B:=(.cmp .lt (.lit 65536) (.op .quo (.op .add (.wrap .i64 (.op .mul (.op .mul (.var 2) (.var 4)) (.app 83 (.cons (.var 10) (.cons (.lit 0) (.cons (.lit 0) .nil)))))) (.lit 7)) (.lit 8)))
def aT8:List B:=aJ kM++aJK
def aK0:List B:=aJ (B.neg kM)++aJK
def mL:B:=(.cmp .lt (.var 7) (.op .quo (.op .add (.wrap .i64 (.op .mul (.op .mul (.var 2) (.var 4)) (.app 83 (.cons (.var 10) (.cons (.lit 0) (.cons (.lit 0) .nil)))))) (.lit 7)) (.lit 8)))
def aPV:List B:=aJ mL++aK0
def aMY:List B:=aJ (B.neg mL)++aK0
def aGZ:List B:=aJ (B.neg cI)++aJz
def cR:B:=(.cmp .lt (.lit 1) (.var 3))
def aHD:List B:=aJ cR++aGZ
def cK:B:=(.cmp .lt (.lit 524288) (.wrap .i64 (.op .mul (.wrap .i64 (.op .mul (.op .mul (.var 2) (.var 4)) (.app 83 (.cons (.var 10) (.cons (.lit 0) (.cons (.lit 0) .nil)))))) (.app 83 (.cons (.var 10) (.cons (.lit 1) (.cons (.lit 0) .nil)))))))
def aM3:List B:=aJ cK++aHD
def gT:B:=(.cmp .le (.op .add (.wrap .i64 (.op .mul (.wrap .i64 (.op .mul (.op .mul (.var 2) (.var 4)) (.app 83 (.cons (.var 10) (.cons (.lit 0) (.cons (.lit 0) .nil)))))) (.app 83 (.cons (.var 10) (.cons (.lit 1) (.cons (.lit 0) .nil)))))) (.lit 7)) (.lit 9223372036854775807))
def aGx:List B:=aJ gT++aM3
def gV:B:=(.cmp .lt (.lit 65536) (.op .quo (.op .add (.wrap .i64 (.op .mul (.wrap .i64 (.op .mul (.op .mul (.var 2) (.var 4)) (.app 83 (.cons (.var 10) (.cons (.lit 0) (.cons (.lit 0) .nil)))))) (.app 83 (.cons (.var 10) (.cons (.lit 1) (.cons (.lit 0) .nil)))))) (.lit 7)) (.lit 8)))
def aOX:List B:=aJ gV++aGx
def aHc:List B:=aJ (B.neg gV)++aGx
def jU:B:=(.cmp .lt (.var 7) (.op .quo (.op .add (.wrap .i64 (.op .mul (.wrap .i64 (.op .mul (.op .mul (.var 2) (.var 4)) (.app 83 (.cons (.var 10) (.cons (.lit 0) (.cons (.lit 0) .nil)))))) (.app 83 (.cons (.var 10) (.cons (.lit 1) (.cons (.lit 0) .nil)))))) (.lit 7)) (.lit 8)))
def aQm:List B:=aJ jU++aHc
def aO6:List B:=aJ (B.neg jU)++aHc
def aFN:List B:=aJ (B.neg cK)++aHD
def cZ:B:=(.cmp .lt (.lit 2) (.var 3))
def aHu:List B:=aJ cZ++aFN
def dS:B:=(.cmp .lt (.lit 524288) (.wrap .i64 (.op .mul (.wrap .i64 (.op .mul (.wrap .i64 (.op .mul (.op .mul (.var 2) (.var 4)) (.app 83 (.cons (.var 10) (.cons (.lit 0) (.cons (.lit 0) .nil)))))) (.app 83 (.cons (.var 10) (.cons (.lit 1) (.cons (.lit 0) .nil)))))) (.app 83 (.cons (.var 10) (.cons (.lit 2) (.cons (.lit 0) .nil)))))))
def aOI:List B:=aJ dS++aHu
def gQ:B:=(.cmp .le (.op .add (.wrap .i64 (.op .mul (.wrap .i64 (.op .mul (.wrap .i64 (.op .mul (.op .mul (.var 2) (.var 4)) (.app 83 (.cons (.var 10) (.cons (.lit 0) (.cons (.lit 0) .nil)))))) (.app 83 (.cons (.var 10) (.cons (.lit 1) (.cons (.lit 0) .nil)))))) (.app 83 (.cons (.var 10) (.cons (.lit 2) (.cons (.lit 0) .nil)))))) (.lit 7)) (.lit 9223372036854775807))
def aGu:List B:=aJ gQ++aOI
def gR:B:=(.cmp .lt (.lit 65536) (.op .quo (.op .add (.wrap .i64 (.op .mul (.wrap .i64 (.op .mul (.wrap .i64 (.op .mul (.op .mul (.var 2) (.var 4)) (.app 83 (.cons (.var 10) (.cons (.lit 0) (.cons (.lit 0) .nil)))))) (.app 83 (.cons (.var 10) (.cons (.lit 1) (.cons (.lit 0) .nil)))))) (.app 83 (.cons (.var 10) (.cons (.lit 2) (.cons (.lit 0) .nil)))))) (.lit 7)) (.lit 8)))
def aQ4:List B:=aJ gR++aGu
def aGe:List B:=aJ (B.neg gR)++aGu
def jY:B:=(.cmp .lt (.var 7) (.op .quo (.op .add (.wrap .i64 (.op .mul (.wrap .i64 (.op .mul (.wrap .i64 (.op .mul (.op .mul (.var 2) (.var 4)) (.app 83 (.cons (.var 10) (.cons (.lit 0) (.cons (.lit 0) .nil)))))) (.app 83 (.cons (.var 10) (.cons (.lit 1) (.cons (.lit 0) .nil)))))) (.app 83 (.cons (.var 10) (.cons (.lit 2) (.cons (.lit 0) .nil)))))) (.lit 7)) (.lit 8)))
def aRb:List B:=aJ jY++aGe
def aRz:List B:=aJ (B.neg jY)++aGe
def aFS:List B:=aJ (B.neg dS)++aHu
def eY:B:=(.cmp .lt (.lit 3) (.var 3))
def aF4:List B:=aJ eY++aFS
def iZ:B:=(.cmp .lt (.lit 524288) (.wrap .i64 (.op .mul (.wrap .i64 (.op .mul (.wrap .i64 (.op .mul (.wrap .i64 (.op .mul (.op .mul (.var 2) (.var 4)) (.app 83 (.cons (.var 10) (.cons (.lit 0) (.cons (.lit 0) .nil)))))) (.app 83 (.cons (.var 10) (.cons (.lit 1) (.cons (.lit 0) .nil)))))) (.app 83 (.cons (.var 10) (.cons (.lit 2) (.cons (.lit 0) .nil)))))) (.app 83 (.cons (.var 10) (.cons (.lit 3) (.cons (.lit 0) .nil)))))))
def aOx:List B:=aJ iZ++aF4
def gS:B:=(.cmp .le (.op .add (.wrap .i64 (.op .mul (.wrap .i64 (.op .mul (.wrap .i64 (.op .mul (.wrap .i64 (.op .mul (.op .mul (.var 2) (.var 4)) (.app 83 (.cons (.var 10) (.cons (.lit 0) (.cons (.lit 0) .nil)))))) (.app 83 (.cons (.var 10) (.cons (.lit 1) (.cons (.lit 0) .nil)))))) (.app 83 (.cons (.var 10) (.cons (.lit 2) (.cons (.lit 0) .nil)))))) (.app 83 (.cons (.var 10) (.cons (.lit 3) (.cons (.lit 0) .nil)))))) (.lit 7)) (.lit 9223372036854775807))
def aHv:List B:=aJ gS++aOx
def gW:B:=(.cmp .lt (.lit 65536) (.op .quo (.op .add (.wrap .i64 (.op .mul (.wrap .i64 (.op .mul (.wrap .i64 (.op .mul (.wrap .i64 (.op .mul (.op .mul (.var 2) (.var 4)) (.app 83 (.cons (.var 10) (.cons (.lit 0) (.cons (.lit 0) .nil)))))) (.app 83 (.cons (.var 10) (.cons (.lit 1) (.cons (.lit 0) .nil)))))) (.app 83 (.cons (.var 10) (.cons (.lit 2) (.cons (.lit 0) .nil)))))) (.app 83 (.cons (.var 10) (.cons (.lit 3) (.cons (.lit 0) .nil)))))) (.lit 7)) (.lit 8)))
def aQI:List B:=aJ gW++aHv
def aHE:List B:=aJ (B.neg gW)++aHv
def jW:B:=(.cmp .lt (.var 7) (.op .quo (.op .add (.wrap .i64 (.op .mul (.wrap .i64 (.op .mul (.wrap .i64 (.op .mul (.wrap .i64 (.op .mul (.op .mul (.var 2) (.var 4)) (.app 83 (.cons (.var 10) (.cons (.lit 0) (.cons (.lit 0) .nil)))))) (.app 83 (.cons (.var 10) (.cons (.lit 1) (.cons (.lit 0) .nil)))))) (.app 83 (.cons (.var 10) (.cons (.lit 2) (.cons (.lit 0) .nil)))))) (.app 83 (.cons (.var 10) (.cons (.lit 3) (.cons (.lit 0) .nil)))))) (.lit 7)) (.lit 8)))
def aOa:List B:=aJ jW++aHE
def aOB:List B:=aJ (B.neg jW)++aHE
def aNy:List B:=aJ (B.neg iZ)++aF4
def aHe:List B:=aJ gS++aNy
def aP0:List B:=aJ gW++aHe
def aGR:List B:=aJ (B.neg gW)++aHe
def aQD:List B:=aJ jW++aGR
def aRw:List B:=aJ (B.neg jW)++aGR
def aOt:List B:=aJ (B.neg eY)++aFS
def aHA:List B:=aJ gQ++aOt
def aP5:List B:=aJ gR++aHA
def aF6:List B:=aJ (B.neg gR)++aHA
def aN8:List B:=aJ jY++aF6
def aRj:List B:=aJ (B.neg jY)++aF6
def aOM:List B:=aJ (B.neg cZ)++aFN
def aFK:List B:=aJ gT++aOM
def aPU:List B:=aJ gV++aFK
def aHs:List B:=aJ (B.neg gV)++aFK
def aR7:List B:=aJ jU++aHs
def aP1:List B:=aJ (B.neg jU)++aHs
def aQp:List B:=aJ (B.neg cR)++aGZ
def aFX:List B:=aJ kL++aQp
def aOR:List B:=aJ kM++aFX
def aGS:List B:=aJ (B.neg kM)++aFX
def aRl:List B:=aJ mL++aGS
def aOj:List B:=aJ (B.neg mL)++aGS
def aQR:List B:=aJ (B.neg bY)++aK8
end Go.Proofs.Ytdldallkeheciaa
set_option maxRecDepth 100000
namespace Go.Proofs.Ytdldallkeheciaa
open Go Go.RowKit Sx Wi Lk
theorem aUs:fH Try.prog aT8 = .ok (.tuple [(.agg [(.int .i64 (.lit 3)),(.int .i64 (.app 72 (.cons (.var 0) (.cons (.var 1) (.cons (.var 2) (.cons (.var 3) (.cons (.var 4) (.cons (.var 5) (.cons (.var 6) (.cons (.var 7) (.cons (.var 8) (.cons (.var 9) (.cons (.var 10) .nil)))))))))))))]),(.bool (.lit false))]):=by kernel_rfl
theorem aNT:fH Try.prog aPV = .ok (.tuple [(.agg [(.int .i64 (.lit 5)),(.int .i64 (.app 72 (.cons (.var 0) (.cons (.var 1) (.cons (.var 2) (.cons (.var 3) (.cons (.var 4) (.cons (.var 5) (.cons (.var 6) (.cons (.var 7) (.cons (.var 8) (.cons (.var 9) (.cons (.var 10) .nil)))))))))))))]),(.bool (.lit false))]):=by kernel_rfl
theorem aOm:fH Try.prog aMY = .ok (.tuple [(.agg []),(.bool (.lit true))]):=by kernel_rfl
theorem aRy:fH Try.prog aOX = .ok (.tuple [(.agg [(.int .i64 (.lit 3)),(.int .i64 (.app 72 (.cons (.var 0) (.cons (.var 1) (.cons (.var 2) (.cons (.var 3) (.cons (.var 4) (.cons (.var 5) (.cons (.var 6) (.cons (.var 7) (.cons (.var 8) (.cons (.var 9) (.cons (.var 10) .nil)))))))))))))]),(.bool (.lit false))]):=by kernel_rfl
theorem aOw:fH Try.prog aQm = .ok (.tuple [(.agg [(.int .i64 (.lit 5)),(.int .i64 (.app 72 (.cons (.var 0) (.cons (.var 1) (.cons (.var 2) (.cons (.var 3) (.cons (.var 4) (.cons (.var 5) (.cons (.var 6) (.cons (.var 7) (.cons (.var 8) (.cons (.var 9) (.cons (.var 10) .nil)))))))))))))]),(.bool (.lit false))]):=by kernel_rfl
theorem aOZ:fH Try.prog aO6 = .ok (.tuple [(.agg []),(.bool (.lit true))]):=by kernel_rfl
theorem aRv:fH Try.prog aQ4 = .ok (.tuple [(.agg [(.int .i64 (.lit 3)),(.int .i64 (.app 72 (.cons (.var 0) (.cons (.var 1) (.cons (.var 2) (.cons (.var 3) (.cons (.var 4) (.cons (.var 5) (.cons (.var 6) (.cons (.var 7) (.cons (.var 8) (.cons (.var 9) (.cons (.var 10) .nil)))))))))))))]),(.bool (.lit false))]):=by kernel_rfl
theorem aRP:fH Try.prog aRb = .ok (.tuple [(.agg [(.int .i64 (.lit 5)),(.int .i64 (.app 72 (.cons (.var 0) (.cons (.var 1) (.cons (.var 2) (.cons (.var 3) (.cons (.var 4) (.cons (.var 5) (.cons (.var 6) (.cons (.var 7) (.cons (.var 8) (.cons (.var 9) (.cons (.var 10) .nil)))))))))))))]),(.bool (.lit false))]):=by kernel_rfl
theorem aQz:fH Try.prog aRz = .ok (.tuple [(.agg []),(.bool (.lit true))]):=by kernel_rfl
theorem aRX:fH Try.prog aQI = .ok (.tuple [(.agg [(.int .i64 (.lit 3)),(.int .i64 (.app 72 (.cons (.var 0) (.cons (.var 1) (.cons (.var 2) (.cons (.var 3) (.cons (.var 4) (.cons (.var 5) (.cons (.var 6) (.cons (.var 7) (.cons (.var 8) (.cons (.var 9) (.cons (.var 10) .nil)))))))))))))]),(.bool (.lit false))]):=by kernel_rfl
theorem aQA:fH Try.prog aOa = .ok (.tuple [(.agg [(.int .i64 (.lit 5)),(.int .i64 (.app 72 (.cons (.var 0) (.cons (.var 1) (.cons (.var 2) (.cons (.var 3) (.cons (.var 4) (.cons (.var 5) (.cons (.var 6) (.cons (.var 7) (.cons (.var 8) (.cons (.var 9) (.cons (.var 10) .nil)))))))))))))]),(.bool (.lit false))]):=by kernel_rfl
theorem aNK:fH Try.prog aOB = .ok (.tuple [(.agg []),(.bool (.lit true))]):=by kernel_rfl
theorem aQN:fH Try.prog aP0 = .ok (.tuple [(.agg [(.int .i64 (.lit 3)),(.int .i64 (.app 72 (.cons (.var 0) (.cons (.var 1) (.cons (.var 2) (.cons (.var 3) (.cons (.var 4) (.cons (.var 5) (.cons (.var 6) (.cons (.var 7) (.cons (.var 8) (.cons (.var 9) (.cons (.var 10) .nil)))))))))))))]),(.bool (.lit false))]):=by kernel_rfl
theorem aN5:fH Try.prog aQD = .ok (.tuple [(.agg [(.int .i64 (.lit 5)),(.int .i64 (.app 72 (.cons (.var 0) (.cons (.var 1) (.cons (.var 2) (.cons (.var 3) (.cons (.var 4) (.cons (.var 5) (.cons (.var 6) (.cons (.var 7) (.cons (.var 8) (.cons (.var 9) (.cons (.var 10) .nil)))))))))))))]),(.bool (.lit false))]):=by kernel_rfl
theorem aQh:fH Try.prog aRw = .ok (.tuple [(.agg []),(.bool (.lit true))]):=by kernel_rfl
theorem aM2:fH Try.prog aP5 = .ok (.tuple [(.agg [(.int .i64 (.lit 3)),(.int .i64 (.app 72 (.cons (.var 0) (.cons (.var 1) (.cons (.var 2) (.cons (.var 3) (.cons (.var 4) (.cons (.var 5) (.cons (.var 6) (.cons (.var 7) (.cons (.var 8) (.cons (.var 9) (.cons (.var 10) .nil)))))))))))))]),(.bool (.lit false))]):=by kernel_rfl
theorem aMW:fH Try.prog aN8 = .ok (.tuple [(.agg [(.int .i64 (.lit 5)),(.int .i64 (.app 72 (.cons (.var 0) (.cons (.var 1) (.cons (.var 2) (.cons (.var 3) (.cons (.var 4) (.cons (.var 5) (.cons (.var 6) (.cons (.var 7) (.cons (.var 8) (.cons (.var 9) (.cons (.var 10) .nil)))))))))))))]),(.bool (.lit false))]):=by kernel_rfl
theorem aNz:fH Try.prog aRj = .ok (.tuple [(.agg []),(.bool (.lit true))]):=by kernel_rfl
theorem aPm:fH Try.prog aPU = .ok (.tuple [(.agg [(.int .i64 (.lit 3)),(.int .i64 (.app 72 (.cons (.var 0) (.cons (.var 1) (.cons (.var 2) (.cons (.var 3) (.cons (.var 4) (.cons (.var 5) (.cons (.var 6) (.cons (.var 7) (.cons (.var 8) (.cons (.var 9) (.cons (.var 10) .nil)))))))))))))]),(.bool (.lit false))]):=by kernel_rfl
theorem aRH:fH Try.prog aR7 = .ok (.tuple [(.agg [(.int .i64 (.lit 5)),(.int .i64 (.app 72 (.cons (.var 0) (.cons (.var 1) (.cons (.var 2) (.cons (.var 3) (.cons (.var 4) (.cons (.var 5) (.cons (.var 6) (.cons (.var 7) (.cons (.var 8) (.cons (.var 9) (.cons (.var 10) .nil)))))))))))))]),(.bool (.lit false))]):=by kernel_rfl
end Go.Proofs.Ytdldallkeheciaa
set_option maxRecDepth 100000
namespace Go.Proofs.Ytdldallkeheciaa
open Go Go.RowKit Sx Wi Lk
theorem aQS:fH Try.prog aP1 = .ok (.tuple [(.agg []),(.bool (.lit true))]):=by kernel_rfl
theorem aPR:fH Try.prog aOR = .ok (.tuple [(.agg [(.int .i64 (.lit 3)),(.int .i64 (.app 72 (.cons (.var 0) (.cons (.var 1) (.cons (.var 2) (.cons (.var 3) (.cons (.var 4) (.cons (.var 5) (.cons (.var 6) (.cons (.var 7) (.cons (.var 8) (.cons (.var 9) (.cons (.var 10) .nil)))))))))))))]),(.bool (.lit false))]):=by kernel_rfl
theorem aN9:fH Try.prog aRl = .ok (.tuple [(.agg [(.int .i64 (.lit 5)),(.int .i64 (.app 72 (.cons (.var 0) (.cons (.var 1) (.cons (.var 2) (.cons (.var 3) (.cons (.var 4) (.cons (.var 5) (.cons (.var 6) (.cons (.var 7) (.cons (.var 8) (.cons (.var 9) (.cons (.var 10) .nil)))))))))))))]),(.bool (.lit false))]):=by kernel_rfl
theorem aPb:fH Try.prog aOj = .ok (.tuple [(.agg []),(.bool (.lit true))]):=by kernel_rfl
theorem aR2:fH Try.prog aQR = .ok (.tuple [(.agg [(.int .i64 (.lit 4)),(.int .i64 (.app 72 (.cons (.var 0) (.cons (.var 1) (.cons (.var 2) (.cons (.var 3) (.cons (.var 4) (.cons (.var 5) (.cons (.var 6) (.cons (.var 7) (.cons (.var 8) (.cons (.var 9) (.cons (.var 10) .nil)))))))))))))]),(.bool (.lit false))]):=by kernel_rfl
end Go.Proofs.Ytdldallkeheciaa
