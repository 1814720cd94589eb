/- What is proved: the run of a function over its ways,and what is known on each. No condition. -/
import Derived.Test.YtdldallkeheciaaQa3
import Derived.Test.YtdldallkeheciaaQa1
import Derived.Test.YtdldallkeheciaaQg4
import Derived.Test.YtdldallkeheciaaProg
set_option linter.unusedSimpArgs false
set_option linter.unusedVariables false
set_option maxRecDepth 100000
namespace Go.Proofs.Ytdldallkeheciaa
open Go Go.RowKit Sx Wi Lk
def lP (P:Program) (fs:List B):Res SV:=aJq P fs
def aI9:List B:=[]
def fN:B:=(.cmp .eq (.var 0) (.lit 1))
def aKU:List B:=aJ fN++aI9
def fZ:B:=(.cmp .lt (.lit 0) (.var 1))
def aJ0:List B:=aJ fZ++aKU
def gL:B:=(.cmp .le (.var 1) (.lit 4))
def aMO:List B:=aJ gL++aJ0
def iC:B:=(.or (.and (.cmp .lt (.lit 0) (.var 1)) (.cmp .le (.app 82 (.cons (.var 8) (.cons (.lit 0) (.cons (.lit 1) .nil)))) (.app 82 (.cons (.var 8) (.cons (.lit 0) (.cons (.lit 0) .nil)))))) (.or (.and (.cmp .lt (.lit 1) (.var 1)) (.cmp .le (.app 82 (.cons (.var 8) (.cons (.lit 1) (.cons (.lit 1) .nil)))) (.app 82 (.cons (.var 8) (.cons (.lit 1) (.cons (.lit 0) .nil)))))) (.or (.and (.cmp .lt (.lit 2) (.var 1)) (.cmp .le (.app 82 (.cons (.var 8) (.cons (.lit 2) (.cons (.lit 1) .nil)))) (.app 82 (.cons (.var 8) (.cons (.lit 2) (.cons (.lit 0) .nil)))))) (.and (.cmp .lt (.lit 3) (.var 1)) (.cmp .le (.app 82 (.cons (.var 8) (.cons (.lit 3) (.cons (.lit 1) .nil)))) (.app 82 (.cons (.var 8) (.cons (.lit 3) (.cons (.lit 0) .nil)))))))))
def aVD:List B:=aJ iC++aMO
def eG:SV:=(.tuple [(.agg [(.bool (.lit false)),(.bool (.and (.cmp .eq (.var 0) (.lit 1)) (.and (.cmp .lt (.lit 0) (.var 1)) (.and (.cmp .le (.var 1) (.lit 4)) (.and (.and (.or (.cmp .le (.var 1) (.lit 0)) (.cmp .lt (.app 82 (.cons (.var 8) (.cons (.lit 0) (.cons (.lit 0) .nil)))) (.app 82 (.cons (.var 8) (.cons (.lit 0) (.cons (.lit 1) .nil)))))) (.and (.or (.cmp .le (.var 1) (.lit 1)) (.cmp .lt (.app 82 (.cons (.var 8) (.cons (.lit 1) (.cons (.lit 0) .nil)))) (.app 82 (.cons (.var 8) (.cons (.lit 1) (.cons (.lit 1) .nil)))))) (.and (.or (.cmp .le (.var 1) (.lit 2)) (.cmp .lt (.app 82 (.cons (.var 8) (.cons (.lit 2) (.cons (.lit 0) .nil)))) (.app 82 (.cons (.var 8) (.cons (.lit 2) (.cons (.lit 1) .nil)))))) (.or (.cmp .le (.var 1) (.lit 3)) (.cmp .lt (.app 82 (.cons (.var 8) (.cons (.lit 3) (.cons (.lit 0) .nil)))) (.app 82 (.cons (.var 8) (.cons (.lit 3) (.cons (.lit 1) .nil))))))))) (.and (.cmp .lt (.lit 0) (.var 2)) (.and (.cmp .le (.var 2) (.lit 4)) (.and (.and (.or (.cmp .le (.var 2) (.lit 0)) (.cmp .le (.app 82 (.cons (.var 9) (.cons (.lit 0) (.cons (.lit 0) .nil)))) (.app 82 (.cons (.var 9) (.cons (.lit 0) (.cons (.lit 1) .nil)))))) (.and (.or (.cmp .le (.var 2) (.lit 1)) (.cmp .le (.app 82 (.cons (.var 9) (.cons (.lit 1) (.cons (.lit 0) .nil)))) (.app 82 (.cons (.var 9) (.cons (.lit 1) (.cons (.lit 1) .nil)))))) (.and (.or (.cmp .le (.var 2) (.lit 2)) (.cmp .le (.app 82 (.cons (.var 9) (.cons (.lit 2) (.cons (.lit 0) .nil)))) (.app 82 (.cons (.var 9) (.cons (.lit 2) (.cons (.lit 1) .nil)))))) (.or (.cmp .le (.var 2) (.lit 3)) (.cmp .le (.app 82 (.cons (.var 9) (.cons (.lit 3) (.cons (.lit 0) .nil)))) (.app 82 (.cons (.var 9) (.cons (.lit 3) (.cons (.lit 1) .nil))))))))) (.and (.cmp .eq (.var 3) (.var 1)) (.and (.and (.or (.cmp .le (.var 3) (.lit 0)) (.and (.cmp .le (.lit 1) (.app 83 (.cons (.var 10) (.cons (.lit 0) (.cons (.lit 0) .nil))))) (.cmp .le (.app 83 (.cons (.var 10) (.cons (.lit 0) (.cons (.lit 0) .nil)))) (.lit 256)))) (.and (.or (.cmp .le (.var 3) (.lit 1)) (.and (.cmp .le (.lit 1) (.app 83 (.cons (.var 10) (.cons (.lit 1) (.cons (.lit 0) .nil))))) (.cmp .le (.app 83 (.cons (.var 10) (.cons (.lit 1) (.cons (.lit 0) .nil)))) (.lit 256)))) (.and (.or (.cmp .le (.var 3) (.lit 2)) (.and (.cmp .le (.lit 1) (.app 83 (.cons (.var 10) (.cons (.lit 2) (.cons (.lit 0) .nil))))) (.cmp .le (.app 83 (.cons (.var 10) (.cons (.lit 2) (.cons (.lit 0) .nil)))) (.lit 256)))) (.and (.or (.cmp .le (.var 3) (.lit 3)) (.and (.cmp .le (.lit 1) (.app 83 (.cons (.var 10) (.cons (.lit 3) (.cons (.lit 0) .nil))))) (.cmp .le (.app 83 (.cons (.var 10) (.cons (.lit 3) (.cons (.lit 0) .nil)))) (.lit 256)))) (.and (.or (.cmp .le (.var 3) (.lit 4)) (.and (.cmp .le (.lit 1) (.app 83 (.cons (.var 10) (.cons (.lit 4) (.cons (.lit 0) .nil))))) (.cmp .le (.app 83 (.cons (.var 10) (.cons (.lit 4) (.cons (.lit 0) .nil)))) (.lit 256)))) (.and (.or (.cmp .le (.var 3) (.lit 5)) (.and (.cmp .le (.lit 1) (.app 83 (.cons (.var 10) (.cons (.lit 5) (.cons (.lit 0) .nil))))) (.cmp .le (.app 83 (.cons (.var 10) (.cons (.lit 5) (.cons (.lit 0) .nil)))) (.lit 256)))) (.and (.or (.cmp .le (.var 3) (.lit 6)) (.and (.cmp .le (.lit 1) (.app 83 (.cons (.var 10) (.cons (.lit 6) (.cons (.lit 0) .nil))))) (.cmp .le (.app 83 (.cons (.var 10) (.cons (.lit 6) (.cons (.lit 0) .nil)))) (.lit 256)))) (.or (.cmp .le (.var 3) (.lit 7)) (.and (.cmp .le (.lit 1) (.app 83 (.cons (.var 10) (.cons (.lit 7) (.cons (.lit 0) .nil))))) (.cmp .le (.app 83 (.cons (.var 10) (.cons (.lit 7) (.cons (.lit 0) .nil)))) (.lit 256))))))))))) (.and (.or (.cmp .eq (.var 4) (.lit 1)) (.or (.cmp .eq (.var 4) (.lit 2)) (.or (.cmp .eq (.var 4) (.lit 4)) (.or (.cmp .eq (.var 4) (.lit 8)) (.or (.cmp .eq (.var 4) (.lit 12)) (.cmp .eq (.var 4) (.lit 16))))))) (.and (.or (.cmp .eq (.var 5) (.lit 0)) (.cmp .eq (.var 5) (.var 1))) (.or (.cmp .eq (.var 6) (.lit 0)) (.cmp .eq (.var 6) (.var 2)))))))))))))))]),(.bool (.lit true))])
def aJu:List B:=aJ (B.neg iC)++aMO
def iV:B:=(.cmp .lt (.lit 0) (.var 2))
def aJN:List B:=aJ iV++aJu
def jG:B:=(.cmp .le (.var 2) (.lit 4))
def aK2:List B:=aJ jG++aJN
def kM:B:=(.or (.and (.cmp .lt (.lit 0) (.var 2)) (.cmp .lt (.app 82 (.cons (.var 9) (.cons (.lit 0) (.cons (.lit 1) .nil)))) (.app 82 (.cons (.var 9) (.cons (.lit 0) (.cons (.lit 0) .nil)))))) (.or (.and (.cmp .lt (.lit 1) (.var 2)) (.cmp .lt (.app 82 (.cons (.var 9) (.cons (.lit 1) (.cons (.lit 1) .nil)))) (.app 82 (.cons (.var 9) (.cons (.lit 1) (.cons (.lit 0) .nil)))))) (.or (.and (.cmp .lt (.lit 2) (.var 2)) (.cmp .lt (.app 82 (.cons (.var 9) (.cons (.lit 2) (.cons (.lit 1) .nil)))) (.app 82 (.cons (.var 9) (.cons (.lit 2) (.cons (.lit 0) .nil)))))) (.and (.cmp .lt (.lit 3) (.var 2)) (.cmp .lt (.app 82 (.cons (.var 9) (.cons (.lit 3) (.cons (.lit 1) .nil)))) (.app 82 (.cons (.var 9) (.cons (.lit 3) (.cons (.lit 0) .nil)))))))))
def aVe:List B:=aJ kM++aK2
def aM2:List B:=aJ (B.neg kM)++aK2
def lQ:B:=(.cmp .eq (.var 3) (.var 1))
def aGu:List B:=aJ lQ++aM2
def mR:B:=(.or (.and (.cmp .lt (.lit 0) (.var 3)) (.or (.cmp .lt (.app 83 (.cons (.var 10) (.cons (.lit 0) (.cons (.lit 0) .nil)))) (.lit 1)) (.cmp .lt (.lit 256) (.app 83 (.cons (.var 10) (.cons (.lit 0) (.cons (.lit 0) .nil))))))) (.or (.and (.cmp .lt (.lit 1) (.var 3)) (.or (.cmp .lt (.app 83 (.cons (.var 10) (.cons (.lit 1) (.cons (.lit 0) .nil)))) (.lit 1)) (.cmp .lt (.lit 256) (.app 83 (.cons (.var 10) (.cons (.lit 1) (.cons (.lit 0) .nil))))))) (.or (.and (.cmp .lt (.lit 2) (.var 3)) (.or (.cmp .lt (.app 83 (.cons (.var 10) (.cons (.lit 2) (.cons (.lit 0) .nil)))) (.lit 1)) (.cmp .lt (.lit 256) (.app 83 (.cons (.var 10) (.cons (.lit 2) (.cons (.lit 0) .nil))))))) (.or (.and (.cmp .lt (.lit 3) (.var 3)) (.or (.cmp .lt (.app 83 (.cons (.var 10) (.cons (.lit 3) (.cons (.lit 0) .nil)))) (.lit 1)) (.cmp .lt (.lit 256) (.app 83 (.cons (.var 10) (.cons (.lit 3) (.cons (.lit 0) .nil))))))) (.or (.and (.cmp .lt (.lit 4) (.var 3)) (.or (.cmp .lt (.app 83 (.cons (.var 10) (.cons (.lit 4) (.cons (.lit 0) .nil)))) (.lit 1)) (.cmp .lt (.lit 256) (.app 83 (.cons (.var 10) (.cons (.lit 4) (.cons (.lit 0) .nil))))))) (.or (.and (.cmp .lt (.lit 5) (.var 3)) (.or (.cmp .lt (.app 83 (.cons (.var 10) (.cons (.lit 5) (.cons (.lit 0) .nil)))) (.lit 1)) (.cmp .lt (.lit 256) (.app 83 (.cons (.var 10) (.cons (.lit 5) (.cons (.lit 0) .nil))))))) (.or (.and (.cmp .lt (.lit 6) (.var 3)) (.or (.cmp .lt (.app 83 (.cons (.var 10) (.cons (.lit 6) (.cons (.lit 0) .nil)))) (.lit 1)) (.cmp .lt (.lit 256) (.app 83 (.cons (.var 10) (.cons (.lit 6) (.cons (.lit 0) .nil))))))) (.and (.cmp .lt (.lit 7) (.var 3)) (.or (.cmp .lt (.app 83 (.cons (.var 10) (.cons (.lit 7) (.cons (.lit 0) .nil)))) (.lit 1)) (.cmp .lt (.lit 256) (.app 83 (.cons (.var 10) (.cons (.lit 7) (.cons (.lit 0) .nil))))))))))))))
def aOh:List B:=aJ mR++aGu
def aG4:List B:=aJ (B.neg mR)++aGu
def nQ:B:=(.or (.cmp .eq (.var 4) (.lit 1)) (.or (.cmp .eq (.var 4) (.lit 2)) (.or (.cmp .eq (.var 4) (.lit 4)) (.or (.cmp .eq (.var 4) (.lit 8)) (.or (.cmp .eq (.var 4) (.lit 12)) (.cmp .eq (.var 4) (.lit 16)))))))
def aG8:List B:=aJ nQ++aG4
def lW:B:=(.cmp .eq (.var 5) (.lit 0))
def aGz:List B:=aJ lW++aG8
def jX:B:=(.cmp .eq (.var 6) (.lit 0))
def aQB:List B:=aJ jX++aGz
def aCP:SV:=(.tuple [(.agg [(.bool (.lit true)),(.bool (.and (.cmp .eq (.var 0) (.lit 1)) (.and (.cmp .lt (.lit 0) (.var 1)) (.and (.cmp .le (.var 1) (.lit 4)) (.and (.and (.or (.cmp .le (.var 1) (.lit 0)) (.cmp .lt (.app 82 (.cons (.var 8) (.cons (.lit 0) (.cons (.lit 0) .nil)))) (.app 82 (.cons (.var 8) (.cons (.lit 0) (.cons (.lit 1) .nil)))))) (.and (.or (.cmp .le (.var 1) (.lit 1)) (.cmp .lt (.app 82 (.cons (.var 8) (.cons (.lit 1) (.cons (.lit 0) .nil)))) (.app 82 (.cons (.var 8) (.cons (.lit 1) (.cons (.lit 1) .nil)))))) (.and (.or (.cmp .le (.var 1) (.lit 2)) (.cmp .lt (.app 82 (.cons (.var 8) (.cons (.lit 2) (.cons (.lit 0) .nil)))) (.app 82 (.cons (.var 8) (.cons (.lit 2) (.cons (.lit 1) .nil)))))) (.or (.cmp .le (.var 1) (.lit 3)) (.cmp .lt (.app 82 (.cons (.var 8) (.cons (.lit 3) (.cons (.lit 0) .nil)))) (.app 82 (.cons (.var 8) (.cons (.lit 3) (.cons (.lit 1) .nil))))))))) (.and (.cmp .lt (.lit 0) (.var 2)) (.and (.cmp .le (.var 2) (.lit 4)) (.and (.and (.or (.cmp .le (.var 2) (.lit 0)) (.cmp .le (.app 82 (.cons (.var 9) (.cons (.lit 0) (.cons (.lit 0) .nil)))) (.app 82 (.cons (.var 9) (.cons (.lit 0) (.cons (.lit 1) .nil)))))) (.and (.or (.cmp .le (.var 2) (.lit 1)) (.cmp .le (.app 82 (.cons (.var 9) (.cons (.lit 1) (.cons (.lit 0) .nil)))) (.app 82 (.cons (.var 9) (.cons (.lit 1) (.cons (.lit 1) .nil)))))) (.and (.or (.cmp .le (.var 2) (.lit 2)) (.cmp .le (.app 82 (.cons (.var 9) (.cons (.lit 2) (.cons (.lit 0) .nil)))) (.app 82 (.cons (.var 9) (.cons (.lit 2) (.cons (.lit 1) .nil)))))) (.or (.cmp .le (.var 2) (.lit 3)) (.cmp .le (.app 82 (.cons (.var 9) (.cons (.lit 3) (.cons (.lit 0) .nil)))) (.app 82 (.cons (.var 9) (.cons (.lit 3) (.cons (.lit 1) .nil))))))))) (.and (.cmp .eq (.var 3) (.var 1)) (.and (.and (.or (.cmp .le (.var 3) (.lit 0)) (.and (.cmp .le (.lit 1) (.app 83 (.cons (.var 10) (.cons (.lit 0) (.cons (.lit 0) .nil))))) (.cmp .le (.app 83 (.cons (.var 10) (.cons (.lit 0) (.cons (.lit 0) .nil)))) (.lit 256)))) (.and (.or (.cmp .le (.var 3) (.lit 1)) (.and (.cmp .le (.lit 1) (.app 83 (.cons (.var 10) (.cons (.lit 1) (.cons (.lit 0) .nil))))) (.cmp .le (.app 83 (.cons (.var 10) (.cons (.lit 1) (.cons (.lit 0) .nil)))) (.lit 256)))) (.and (.or (.cmp .le (.var 3) (.lit 2)) (.and (.cmp .le (.lit 1) (.app 83 (.cons (.var 10) (.cons (.lit 2) (.cons (.lit 0) .nil))))) (.cmp .le (.app 83 (.cons (.var 10) (.cons (.lit 2) (.cons (.lit 0) .nil)))) (.lit 256)))) (.and (.or (.cmp .le (.var 3) (.lit 3)) (.and (.cmp .le (.lit 1) (.app 83 (.cons (.var 10) (.cons (.lit 3) (.cons (.lit 0) .nil))))) (.cmp .le (.app 83 (.cons (.var 10) (.cons (.lit 3) (.cons (.lit 0) .nil)))) (.lit 256)))) (.and (.or (.cmp .le (.var 3) (.lit 4)) (.and (.cmp .le (.lit 1) (.app 83 (.cons (.var 10) (.cons (.lit 4) (.cons (.lit 0) .nil))))) (.cmp .le (.app 83 (.cons (.var 10) (.cons (.lit 4) (.cons (.lit 0) .nil)))) (.lit 256)))) (.and (.or (.cmp .le (.var 3) (.lit 5)) (.and (.cmp .le (.lit 1) (.app 83 (.cons (.var 10) (.cons (.lit 5) (.cons (.lit 0) .nil))))) (.cmp .le (.app 83 (.cons (.var 10) (.cons (.lit 5) (.cons (.lit 0) .nil)))) (.lit 256)))) (.and (.or (.cmp .le (.var 3) (.lit 6)) (.and (.cmp .le (.lit 1) (.app 83 (.cons (.var 10) (.cons (.lit 6) (.cons (.lit 0) .nil))))) (.cmp .le (.app 83 (.cons (.var 10) (.cons (.lit 6) (.cons (.lit 0) .nil)))) (.lit 256)))) (.or (.cmp .le (.var 3) (.lit 7)) (.and (.cmp .le (.lit 1) (.app 83 (.cons (.var 10) (.cons (.lit 7) (.cons (.lit 0) .nil))))) (.cmp .le (.app 83 (.cons (.var 10) (.cons (.lit 7) (.cons (.lit 0) .nil)))) (.lit 256))))))))))) (.and (.or (.cmp .eq (.var 4) (.lit 1)) (.or (.cmp .eq (.var 4) (.lit 2)) (.or (.cmp .eq (.var 4) (.lit 4)) (.or (.cmp .eq (.var 4) (.lit 8)) (.or (.cmp .eq (.var 4) (.lit 12)) (.cmp .eq (.var 4) (.lit 16))))))) (.and (.or (.cmp .eq (.var 5) (.lit 0)) (.cmp .eq (.var 5) (.var 1))) (.or (.cmp .eq (.var 6) (.lit 0)) (.cmp .eq (.var 6) (.var 2)))))))))))))))]),(.bool (.lit true))])
def aPD:List B:=aJ (B.neg jX)++aGz
def aBw:SV:=(.tuple [(.agg [(.bool (.cmp .eq (.var 6) (.var 2))),(.bool (.and (.cmp .eq (.var 0) (.lit 1)) (.and (.cmp .lt (.lit 0) (.var 1)) (.and (.cmp .le (.var 1) (.lit 4)) (.and (.and (.or (.cmp .le (.var 1) (.lit 0)) (.cmp .lt (.app 82 (.cons (.var 8) (.cons (.lit 0) (.cons (.lit 0) .nil)))) (.app 82 (.cons (.var 8) (.cons (.lit 0) (.cons (.lit 1) .nil)))))) (.and (.or (.cmp .le (.var 1) (.lit 1)) (.cmp .lt (.app 82 (.cons (.var 8) (.cons (.lit 1) (.cons (.lit 0) .nil)))) (.app 82 (.cons (.var 8) (.cons (.lit 1) (.cons (.lit 1) .nil)))))) (.and (.or (.cmp .le (.var 1) (.lit 2)) (.cmp .lt (.app 82 (.cons (.var 8) (.cons (.lit 2) (.cons (.lit 0) .nil)))) (.app 82 (.cons (.var 8) (.cons (.lit 2) (.cons (.lit 1) .nil)))))) (.or (.cmp .le (.var 1) (.lit 3)) (.cmp .lt (.app 82 (.cons (.var 8) (.cons (.lit 3) (.cons (.lit 0) .nil)))) (.app 82 (.cons (.var 8) (.cons (.lit 3) (.cons (.lit 1) .nil))))))))) (.and (.cmp .lt (.lit 0) (.var 2)) (.and (.cmp .le (.var 2) (.lit 4)) (.and (.and (.or (.cmp .le (.var 2) (.lit 0)) (.cmp .le (.app 82 (.cons (.var 9) (.cons (.lit 0) (.cons (.lit 0) .nil)))) (.app 82 (.cons (.var 9) (.cons (.lit 0) (.cons (.lit 1) .nil)))))) (.and (.or (.cmp .le (.var 2) (.lit 1)) (.cmp .le (.app 82 (.cons (.var 9) (.cons (.lit 1) (.cons (.lit 0) .nil)))) (.app 82 (.cons (.var 9) (.cons (.lit 1) (.cons (.lit 1) .nil)))))) (.and (.or (.cmp .le (.var 2) (.lit 2)) (.cmp .le (.app 82 (.cons (.var 9) (.cons (.lit 2) (.cons (.lit 0) .nil)))) (.app 82 (.cons (.var 9) (.cons (.lit 2) (.cons (.lit 1) .nil)))))) (.or (.cmp .le (.var 2) (.lit 3)) (.cmp .le (.app 82 (.cons (.var 9) (.cons (.lit 3) (.cons (.lit 0) .nil)))) (.app 82 (.cons (.var 9) (.cons (.lit 3) (.cons (.lit 1) .nil))))))))) (.and (.cmp .eq (.var 3) (.var 1)) (.and (.and (.or (.cmp .le (.var 3) (.lit 0)) (.and (.cmp .le (.lit 1) (.app 83 (.cons (.var 10) (.cons (.lit 0) (.cons (.lit 0) .nil))))) (.cmp .le (.app 83 (.cons (.var 10) (.cons (.lit 0) (.cons (.lit 0) .nil)))) (.lit 256)))) (.and (.or (.cmp .le (.var 3) (.lit 1)) (.and (.cmp .le (.lit 1) (.app 83 (.cons (.var 10) (.cons (.lit 1) (.cons (.lit 0) .nil))))) (.cmp .le (.app 83 (.cons (.var 10) (.cons (.lit 1) (.cons (.lit 0) .nil)))) (.lit 256)))) (.and (.or (.cmp .le (.var 3) (.lit 2)) (.and (.cmp .le (.lit 1) (.app 83 (.cons (.var 10) (.cons (.lit 2) (.cons (.lit 0) .nil))))) (.cmp .le (.app 83 (.cons (.var 10) (.cons (.lit 2) (.cons (.lit 0) .nil)))) (.lit 256)))) (.and (.or (.cmp .le (.var 3) (.lit 3)) (.and (.cmp .le (.lit 1) (.app 83 (.cons (.var 10) (.cons (.lit 3) (.cons (.lit 0) .nil))))) (.cmp .le (.app 83 (.cons (.var 10) (.cons (.lit 3) (.cons (.lit 0) .nil)))) (.lit 256)))) (.and (.or (.cmp .le (.var 3) (.lit 4)) (.and (.cmp .le (.lit 1) (.app 83 (.cons (.var 10) (.cons (.lit 4) (.cons (.lit 0) .nil))))) (.cmp .le (.app 83 (.cons (.var 10) (.cons (.lit 4) (.cons (.lit 0) .nil)))) (.lit 256)))) (.and (.or (.cmp .le (.var 3) (.lit 5)) (.and (.cmp .le (.lit 1) (.app 83 (.cons (.var 10) (.cons (.lit 5) (.cons (.lit 0) .nil))))) (.cmp .le (.app 83 (.cons (.var 10) (.cons (.lit 5) (.cons (.lit 0) .nil)))) (.lit 256)))) (.and (.or (.cmp .le (.var 3) (.lit 6)) (.and (.cmp .le (.lit 1) (.app 83 (.cons (.var 10) (.cons (.lit 6) (.cons (.lit 0) .nil))))) (.cmp .le (.app 83 (.cons (.var 10) (.cons (.lit 6) (.cons (.lit 0) .nil)))) (.lit 256)))) (.or (.cmp .le (.var 3) (.lit 7)) (.and (.cmp .le (.lit 1) (.app 83 (.cons (.var 10) (.cons (.lit 7) (.cons (.lit 0) .nil))))) (.cmp .le (.app 83 (.cons (.var 10) (.cons (.lit 7) (.cons (.lit 0) .nil)))) (.lit 256))))))))))) (.and (.or (.cmp .eq (.var 4) (.lit 1)) (.or (.cmp .eq (.var 4) (.lit 2)) (.or (.cmp .eq (.var 4) (.lit 4)) (.or (.cmp .eq (.var 4) (.lit 8)) (.or (.cmp .eq (.var 4) (.lit 12)) (.cmp .eq (.var 4) (.lit 16))))))) (.and (.or (.cmp .eq (.var 5) (.lit 0)) (.cmp .eq (.var 5) (.var 1))) (.or (.cmp .eq (.var 6) (.lit 0)) (.cmp .eq (.var 6) (.var 2)))))))))))))))]),(.bool (.lit true))])
def aGA:List B:=aJ (B.neg lW)++aG8
def qP:B:=(.cmp .eq (.var 5) (.var 1))
def aF0:List B:=aJ qP++aGA
def aRn:List B:=aJ jX++aF0
def aR2:List B:=aJ (B.neg jX)++aF0
def aNM:List B:=aJ (B.neg qP)++aGA
def aR7:List B:=aJ (B.neg nQ)++aG4
def aRw:List B:=aJ (B.neg lQ)++aM2
def aQl:List B:=aJ (B.neg jG)++aJN
def aSN:List B:=aJ (B.neg iV)++aJu
def aRp:List B:=aJ (B.neg gL)++aJ0
def aRH:List B:=aJ (B.neg fZ)++aKU
def aNX:List B:=aJ (B.neg fN)++aI9
theorem aUH:lP Try.prog aVD = .ok eG:=by kernel_rfl
theorem aVM:lP Try.prog aVe = .ok eG:=by kernel_rfl
theorem aPm:lP Try.prog aOh = .ok eG:=by kernel_rfl
theorem aNO:lP Try.prog aQB = .ok aCP:=by kernel_rfl
theorem aRU:lP Try.prog aPD = .ok aBw:=by kernel_rfl
theorem aN3:lP Try.prog aRn = .ok aCP:=by kernel_rfl
theorem aN5:lP Try.prog aR2 = .ok aBw:=by kernel_rfl
theorem aRC:lP Try.prog aNM = .ok eG:=by kernel_rfl
theorem aSF:lP Try.prog aR7 = .ok eG:=by kernel_rfl
theorem aSQ:lP Try.prog aRw = .ok eG:=by kernel_rfl
theorem aNZ:lP Try.prog aQl = .ok eG:=by kernel_rfl
theorem aOM:lP Try.prog aSN = .ok eG:=by kernel_rfl
theorem aR8:lP Try.prog aRp = .ok eG:=by kernel_rfl
theorem aQ2:lP Try.prog aRH = .ok eG:=by kernel_rfl
theorem aQp:lP Try.prog aNX = .ok eG:=by kernel_rfl
end Go.Proofs.Ytdldallkeheciaa
namespace Go.Proofs.Ytdldallkeheciaa
open Go Go.RowKit Sx Wi Lk
set_option maxHeartbeats 8000000 in
set_option maxRecDepth 100000 in
theorem aVm (x0 x1 x2 x3 x4 x5 x6 x7 l0 l1 l2 l3 l4 l5:Int) (b0:0≤x0∧x0≤255) (b1:0≤x1∧x1≤8) (b2:0≤x2∧x2≤8) (b3:0≤x3∧x3≤8) (b4:(-9223372036854775808)≤x4∧x4≤9223372036854775807) (b5:0≤x5∧x5≤8) (b6:0≤x6∧x6≤8) (b7:0≤x7∧x7≤70000):gD Try.prog G GB 40 aTv (cR ([x0,x1,x2,x3,x4,x5,x6,x7]++[l0,l1,l2,l3,l4,l5])):=by
 refine cX (lp:=dQ) (run:=aJq Try.prog) (fun _=>rfl) fits (bP (xs:=[x0,x1,x2,x3,x4,x5,x6,x7]) (ls:=[l0,l1,l2,l3,l4,l5]) (by exact⟨b0,b1,b2,b3,b4,b5,b6,b7,trivial⟩)) eS (fun X hX hG=>aDC hX hG) (fun X hX hG fn c hf hc=>cG) rfl ?_
 refine aG fN (fun h0=>?_) (fun h0=>?_)
 rotate_left
 ·skip
  refine aH aQp ?_
  unfold fN at h0;unfold eG;simp only[bK];refine⟨rfl,?_⟩;simp only[aI];refine⟨?_,trivial⟩;show _=B.den G _ bV;unfold bV;simp only[aZ,eV,cE,h0,Bool.and_true,Bool.true_and,Bool.false_and,Bool.and_false,Bool.not_false,Bool.not_true,Bool.or_true,Bool.true_or,Bool.or_false,Bool.false_or]<;>(try simp only[gY,aZ,cE,h0,Bool.and_true,Bool.true_and,Bool.false_and,Bool.and_false,Bool.not_false,Bool.not_true,Bool.or_true,Bool.true_or,Bool.or_false,Bool.false_or])
 refine aG fZ (fun h1=>?_) (fun h1=>?_)
 rotate_left
 ·skip
  refine aH aQ2 ?_
  unfold fN at h0;unfold fZ at h1;unfold eG;simp only[bK];refine⟨rfl,?_⟩;simp only[aI];refine⟨?_,trivial⟩;show _=B.den G _ bV;unfold bV;simp only[aZ,eV,cE,h0,h1,Bool.and_true,Bool.true_and,Bool.false_and,Bool.and_false,Bool.not_false,Bool.not_true,Bool.or_true,Bool.true_or,Bool.or_false,Bool.false_or]<;>(try simp only[gY,aZ,cE,h0,h1,Bool.and_true,Bool.true_and,Bool.false_and,Bool.and_false,Bool.not_false,Bool.not_true,Bool.or_true,Bool.true_or,Bool.or_false,Bool.false_or])
 refine aG gL (fun h2=>?_) (fun h2=>?_)
 rotate_left
 ·skip
  refine aH aR8 ?_
  unfold fN at h0;unfold fZ at h1;unfold gL at h2;unfold eG;simp only[bK];refine⟨rfl,?_⟩;simp only[aI];refine⟨?_,trivial⟩;show _=B.den G _ bV;unfold bV;simp only[aZ,eV,cE,h0,h1,h2,Bool.and_true,Bool.true_and,Bool.false_and,Bool.and_false,Bool.not_false,Bool.not_true,Bool.or_true,Bool.true_or,Bool.or_false,Bool.false_or]<;>(try simp only[gY,aZ,cE,h0,h1,h2,Bool.and_true,Bool.true_and,Bool.false_and,Bool.and_false,Bool.not_false,Bool.not_true,Bool.or_true,Bool.true_or,Bool.or_false,Bool.false_or])
 refine aG iC (fun h3=>?_) (fun h3=>?_)
 ·skip
  refine aH aUH ?_
  unfold fN at h0;unfold fZ at h1;unfold gL at h2;unfold iC at h3;unfold eG;simp only[bK];refine⟨rfl,?_⟩;simp only[aI];refine⟨?_,trivial⟩;show _=B.den G _ bV;unfold bV;simp only[aZ,eV,cE,h0,h1,h2,h3,Bool.and_true,Bool.true_and,Bool.false_and,Bool.and_false,Bool.not_false,Bool.not_true,Bool.or_true,Bool.true_or,Bool.or_false,Bool.false_or]<;>(try simp only[gY,aZ,cE,h0,h1,h2,h3,Bool.and_true,Bool.true_and,Bool.false_and,Bool.and_false,Bool.not_false,Bool.not_true,Bool.or_true,Bool.true_or,Bool.or_false,Bool.false_or])
 refine aG iV (fun h4=>?_) (fun h4=>?_)
 rotate_left
 ·skip
  refine aH aOM ?_
  unfold fN at h0;unfold fZ at h1;unfold gL at h2;unfold iC at h3;unfold iV at h4;unfold eG;simp only[bK];refine⟨rfl,?_⟩;simp only[aI];refine⟨?_,trivial⟩;show _=B.den G _ bV;unfold bV;simp only[aZ,eV,cE,h0,h1,h2,h3,h4,Bool.and_true,Bool.true_and,Bool.false_and,Bool.and_false,Bool.not_false,Bool.not_true,Bool.or_true,Bool.true_or,Bool.or_false,Bool.false_or]<;>(try simp only[gY,aZ,cE,h0,h1,h2,h3,h4,Bool.and_true,Bool.true_and,Bool.false_and,Bool.and_false,Bool.not_false,Bool.not_true,Bool.or_true,Bool.true_or,Bool.or_false,Bool.false_or])
 refine aG jG (fun h5=>?_) (fun h5=>?_)
 rotate_left
 ·skip
  refine aH aNZ ?_
  unfold fN at h0;unfold fZ at h1;unfold gL at h2;unfold iC at h3;unfold iV at h4;unfold jG at h5;unfold eG;simp only[bK];refine⟨rfl,?_⟩;simp only[aI];refine⟨?_,trivial⟩;show _=B.den G _ bV;unfold bV;simp only[aZ,eV,cE,h0,h1,h2,h3,h4,h5,Bool.and_true,Bool.true_and,Bool.false_and,Bool.and_false,Bool.not_false,Bool.not_true,Bool.or_true,Bool.true_or,Bool.or_false,Bool.false_or]<;>(try simp only[gY,aZ,cE,h0,h1,h2,h3,h4,h5,Bool.and_true,Bool.true_and,Bool.false_and,Bool.and_false,Bool.not_false,Bool.not_true,Bool.or_true,Bool.true_or,Bool.or_false,Bool.false_or])
 refine aG kM (fun h6=>?_) (fun h6=>?_)
 ·skip
  refine aH aVM ?_
  unfold fN at h0;unfold fZ at h1;unfold gL at h2;unfold iC at h3;unfold iV at h4;unfold jG at h5;unfold kM at h6;unfold eG;simp only[bK];refine⟨rfl,?_⟩;simp only[aI];refine⟨?_,trivial⟩;show _=B.den G _ bV;unfold bV;simp only[aZ,eV,cE,h0,h1,h2,h3,h4,h5,h6,Bool.and_true,Bool.true_and,Bool.false_and,Bool.and_false,Bool.not_false,Bool.not_true,Bool.or_true,Bool.true_or,Bool.or_false,Bool.false_or]<;>(try simp only[gY,aZ,cE,h0,h1,h2,h3,h4,h5,h6,Bool.and_true,Bool.true_and,Bool.false_and,Bool.and_false,Bool.not_false,Bool.not_true,Bool.or_true,Bool.true_or,Bool.or_false,Bool.false_or])
 refine aG lQ (fun h7=>?_) (fun h7=>?_)
 rotate_left
 ·skip
  refine aH aSQ ?_
  unfold fN at h0;unfold fZ at h1;unfold gL at h2;unfold iC at h3;unfold iV at h4;unfold jG at h5;unfold kM at h6;unfold lQ at h7;unfold eG;simp only[bK];refine⟨rfl,?_⟩;simp only[aI];refine⟨?_,trivial⟩;show _=B.den G _ bV;unfold bV;simp only[aZ,eV,cE,h0,h1,h2,h3,h4,h5,h6,h7,Bool.and_true,Bool.true_and,Bool.false_and,Bool.and_false,Bool.not_false,Bool.not_true,Bool.or_true,Bool.true_or,Bool.or_false,Bool.false_or]<;>(try simp only[gY,aZ,cE,h0,h1,h2,h3,h4,h5,h6,h7,Bool.and_true,Bool.true_and,Bool.false_and,Bool.and_false,Bool.not_false,Bool.not_true,Bool.or_true,Bool.true_or,Bool.or_false,Bool.false_or])
 refine aG mR (fun h8=>?_) (fun h8=>?_)
 ·skip
  refine aH aPm ?_
  unfold fN at h0;unfold fZ at h1;unfold gL at h2;unfold iC at h3;unfold iV at h4;unfold jG at h5;unfold kM at h6;unfold lQ at h7;unfold mR at h8;unfold eG;simp only[bK];refine⟨rfl,?_⟩;simp only[aI];refine⟨?_,trivial⟩;show _=B.den G _ bV;unfold bV;simp only[aZ,eV,cE,h0,h1,h2,h3,h4,h5,h6,h7,h8,Bool.and_true,Bool.true_and,Bool.false_and,Bool.and_false,Bool.not_false,Bool.not_true,Bool.or_true,Bool.true_or,Bool.or_false,Bool.false_or]<;>(try simp only[gY,aZ,cE,h0,h1,h2,h3,h4,h5,h6,h7,h8,Bool.and_true,Bool.true_and,Bool.false_and,Bool.and_false,Bool.not_false,Bool.not_true,Bool.or_true,Bool.true_or,Bool.or_false,Bool.false_or])
 refine aG nQ (fun h9=>?_) (fun h9=>?_)
 rotate_left
 ·skip
  refine aH aSF ?_
  unfold fN at h0;unfold fZ at h1;unfold gL at h2;unfold iC at h3;unfold iV at h4;unfold jG at h5;unfold kM at h6;unfold lQ at h7;unfold mR at h8;unfold nQ at h9;unfold eG;simp only[bK];refine⟨rfl,?_⟩;simp only[aI];refine⟨?_,trivial⟩;show _=B.den G _ bV;unfold bV;simp only[aZ,eV,cE,h0,h1,h2,h3,h4,h5,h6,h7,h8,h9,Bool.and_true,Bool.true_and,Bool.false_and,Bool.and_false,Bool.not_false,Bool.not_true,Bool.or_true,Bool.true_or,Bool.or_false,Bool.false_or]<;>(try simp only[gY,aZ,cE,h0,h1,h2,h3,h4,h5,h6,h7,h8,h9,Bool.and_true,Bool.true_and,Bool.false_and,Bool.and_false,Bool.not_false,Bool.not_true,Bool.or_true,Bool.true_or,Bool.or_false,Bool.false_or])
 refine aG lW (fun h10=>?_) (fun h10=>?_)
 ·skip
  refine aG jX (fun h11=>?_) (fun h11=>?_)
  ·skip
   refine aH aNO ?_
   unfold fN at h0;unfold fZ at h1;unfold gL at h2;unfold iC at h3;unfold iV at h4;unfold jG at h5;unfold kM at h6;unfold lQ at h7;unfold mR at h8;unfold nQ at h9;unfold lW at h10;unfold jX at h11;unfold aCP;simp only[bK];refine⟨rfl,?_⟩;simp only[aI];refine⟨?_,trivial⟩;show _=B.den G _ bV;unfold bV;simp only[aZ,eV,cE,h0,h1,h2,h3,h4,h5,h6,h7,h8,h9,h10,h11,Bool.and_true,Bool.true_and,Bool.false_and,Bool.and_false,Bool.not_false,Bool.not_true,Bool.or_true,Bool.true_or,Bool.or_false,Bool.false_or]<;>(try simp only[gY,aZ,cE,h0,h1,h2,h3,h4,h5,h6,h7,h8,h9,h10,h11,Bool.and_true,Bool.true_and,Bool.false_and,Bool.and_false,Bool.not_false,Bool.not_true,Bool.or_true,Bool.true_or,Bool.or_false,Bool.false_or])
  refine aH aRU ?_
  unfold fN at h0;unfold fZ at h1;unfold gL at h2;unfold iC at h3;unfold iV at h4;unfold jG at h5;unfold kM at h6;unfold lQ at h7;unfold mR at h8;unfold nQ at h9;unfold lW at h10;unfold jX at h11;unfold aBw;simp only[bK];refine⟨rfl,?_⟩;simp only[aI];refine⟨?_,trivial⟩;show _=B.den G _ bV;unfold bV;simp only[aZ,eV,cE,h0,h1,h2,h3,h4,h5,h6,h7,h8,h9,h10,h11,Bool.and_true,Bool.true_and,Bool.false_and,Bool.and_false,Bool.not_false,Bool.not_true,Bool.or_true,Bool.true_or,Bool.or_false,Bool.false_or]<;>(try simp only[gY,aZ,cE,h0,h1,h2,h3,h4,h5,h6,h7,h8,h9,h10,h11,Bool.and_true,Bool.true_and,Bool.false_and,Bool.and_false,Bool.not_false,Bool.not_true,Bool.or_true,Bool.true_or,Bool.or_false,Bool.false_or])
 refine aG qP (fun h11=>?_) (fun h11=>?_)
 rotate_left
 ·skip
  refine aH aRC ?_
  unfold fN at h0;unfold fZ at h1;unfold gL at h2;unfold iC at h3;unfold iV at h4;unfold jG at h5;unfold kM at h6;unfold lQ at h7;unfold mR at h8;unfold nQ at h9;unfold lW at h10;unfold qP at h11;unfold eG;simp only[bK];refine⟨rfl,?_⟩;simp only[aI];refine⟨?_,trivial⟩;show _=B.den G _ bV;unfold bV;simp only[aZ,eV,cE,h0,h1,h2,h3,h4,h5,h6,h7,h8,h9,h10,h11,Bool.and_true,Bool.true_and,Bool.false_and,Bool.and_false,Bool.not_false,Bool.not_true,Bool.or_true,Bool.true_or,Bool.or_false,Bool.false_or]<;>(try simp only[gY,aZ,cE,h0,h1,h2,h3,h4,h5,h6,h7,h8,h9,h10,h11,Bool.and_true,Bool.true_and,Bool.false_and,Bool.and_false,Bool.not_false,Bool.not_true,Bool.or_true,Bool.true_or,Bool.or_false,Bool.false_or])
 refine aG jX (fun h12=>?_) (fun h12=>?_)
 ·skip
  refine aH aN3 ?_
  unfold fN at h0;unfold fZ at h1;unfold gL at h2;unfold iC at h3;unfold iV at h4;unfold jG at h5;unfold kM at h6;unfold lQ at h7;unfold mR at h8;unfold nQ at h9;unfold lW at h10;unfold qP at h11;unfold jX at h12;unfold aCP;simp only[bK];refine⟨rfl,?_⟩;simp only[aI];refine⟨?_,trivial⟩;show _=B.den G _ bV;unfold bV;simp only[aZ,eV,cE,h0,h1,h2,h3,h4,h5,h6,h7,h8,h9,h10,h11,h12,Bool.and_true,Bool.true_and,Bool.false_and,Bool.and_false,Bool.not_false,Bool.not_true,Bool.or_true,Bool.true_or,Bool.or_false,Bool.false_or]<;>(try simp only[gY,aZ,cE,h0,h1,h2,h3,h4,h5,h6,h7,h8,h9,h10,h11,h12,Bool.and_true,Bool.true_and,Bool.false_and,Bool.and_false,Bool.not_false,Bool.not_true,Bool.or_true,Bool.true_or,Bool.or_false,Bool.false_or])
 refine aH aN5 ?_
 unfold fN at h0;unfold fZ at h1;unfold gL at h2;unfold iC at h3;unfold iV at h4;unfold jG at h5;unfold kM at h6;unfold lQ at h7;unfold mR at h8;unfold nQ at h9;unfold lW at h10;unfold qP at h11;unfold jX at h12;unfold aBw;simp only[bK];refine⟨rfl,?_⟩;simp only[aI];refine⟨?_,trivial⟩;show _=B.den G _ bV;unfold bV;simp only[aZ,eV,cE,h0,h1,h2,h3,h4,h5,h6,h7,h8,h9,h10,h11,h12,Bool.and_true,Bool.true_and,Bool.false_and,Bool.and_false,Bool.not_false,Bool.not_true,Bool.or_true,Bool.true_or,Bool.or_false,Bool.false_or]<;>(try simp only[gY,aZ,cE,h0,h1,h2,h3,h4,h5,h6,h7,h8,h9,h10,h11,h12,Bool.and_true,Bool.true_and,Bool.false_and,Bool.and_false,Bool.not_false,Bool.not_true,Bool.or_true,Bool.true_or,Bool.or_false,Bool.false_or])
def aEb:Ctx→List SV→aM→Res (SV × aM):=dZ GB [(0,255),(0,8),(0,8),(0,8),((-9223372036854775808),9223372036854775807),(0,8),(0,8),(0,70000)] 6 (.lit true) aTv
theorem aWL {X:Ctx} {ρ:Nat→Int} (hX:X.Ok ρ) (hG:X.G=G):eU Try.prog X ρ GB 40 aEb:=by
 obtain⟨XG,XI,XV,XF⟩:=X
 simp only at hG
 subst hG
 refine cU hX ?_
 intro xs ls hw hl hp
 obtain⟨x0,y0,e0,b0,h0⟩:=aY hw
 obtain⟨x1,y1,e1,b1,h1⟩:=aY h0
 obtain⟨x2,y2,e2,b2,h2⟩:=aY h1
 obtain⟨x3,y3,e3,b3,h3⟩:=aY h2
 obtain⟨x4,y4,e4,b4,h4⟩:=aY h3
 obtain⟨x5,y5,e5,b5,h5⟩:=aY h4
 obtain⟨x6,y6,e6,b6,h6⟩:=aY h5
 obtain⟨x7,y7,e7,b7,h7⟩:=aY h6
 have e8:=jS h7
 subst e8 e7 e6 e5 e4 e3 e2 e1 e0
 obtain⟨l0,z0,q0,hl0⟩:=bJ hl
 obtain⟨l1,z1,q1,hl1⟩:=bJ hl0
 obtain⟨l2,z2,q2,hl2⟩:=bJ hl1
 obtain⟨l3,z3,q3,hl3⟩:=bJ hl2
 obtain⟨l4,z4,q4,hl4⟩:=bJ hl3
 obtain⟨l5,z5,q5,hl5⟩:=bJ hl4
 have q6:=List.length_eq_zero_iff.1 hl5
 subst q6 q5 q4 q3 q2 q1 q0
 exact aVm x0 x1 x2 x3 x4 x5 x6 x7 l0 l1 l2 l3 l4 l5 b0 b1 b2 b3 b4 b5 b6 b7
def aAP:Ctx→List SV→aM→Res (SV × aM):=rG aEb
theorem aUt {X:Ctx} {ρ:Nat→Int} (hX:X.Ok ρ) (hG:X.G=G):eU Try.prog X ρ GB 40 aAP:=nC hX (aWL hX hG)
def aKn:bA:=fT 40 aAP aJ1
theorem aDv {X:Ctx} {ρ:Nat→Int} (hX:X.Ok ρ) (hG:X.G=G):fF Try.prog X ρ GB aKn:=dM (aUt hX hG) (aDC hX hG)
def dO:B:=(.and bV (.and (.cmp .le (.app 63 (.cons (.var 2) (.cons (.var 4) (.cons (.var 10) (.cons (.var 3) .nil))))) (.lit 524288)) (.cmp .le (.app 63 (.cons (.var 2) (.cons (.var 4) (.cons (.var 10) (.cons (.var 3) .nil))))) (.op .mul (.lit 8) (.var 7)))))
def aTF:FunS:=⟨[(.agg [(.int .u8 (.var 0)),(.own 0 (.var 1) none),(.own 1 (.var 2) none),(.own 2 (.var 3) none),(.int .i64 (.var 4)),(.own 3 (.var 5) none),(.own 4 (.var 6) none),(.own 5 (.var 7) none),.any,.any,.any,.any,.any,.any])],[some ([.vec [.int .i32,.int .i32] (.var 8) (.var 1) true],aF),some ([.vec [.int .i32,.int .i32] (.var 9) (.var 2) true],aF),some ([.vec [.int .i64] (.var 10) (.var 3) true],aF),some ([.vec [.int .i32,.int .i32] (.var 11) (.var 5) true],aF),some ([.vec [.int .i32,.int .i32] (.var 12) (.var 6) true],aF),some ([.vec [.int .u8] (.var 13) (.var 7) true],aF)],dO,(.int .i64 (.lit 0)),[some ([.vec [.int .i32,.int .i32] (.var 8) (.var 1) true],aF),some ([.vec [.int .i32,.int .i32] (.var 9) (.var 2) true],aF),some ([.vec [.int .i64] (.var 10) (.var 3) true],aF),some ([.vec [.int .i32,.int .i32] (.var 11) (.var 5) true],aF),some ([.vec [.int .i32,.int .i32] (.var 12) (.var 6) true],aF),some ([.vec [.int .u8] (.var 13) (.var 7) true],aF)],(.int .i64 (.app 72 (.cons (.var 0) (.cons (.var 1) (.cons (.var 2) (.cons (.var 3) (.cons (.var 4) (.cons (.var 5) (.cons (.var 6) (.cons (.var 7) (.cons (.var 8) (.cons (.var 9) (.cons (.var 10) .nil))))))))))))),[some ([.vec [.int .i32,.int .i32] (.var 8) (.var 1) true],aF),some ([.vec [.int .i32,.int .i32] (.var 9) (.var 2) true],aF),some ([.vec [.int .i64] (.var 10) (.var 3) true],aF),some ([.vec [.int .i32,.int .i32] (.var 11) (.var 5) true],aF),some ([.vec [.int .i32,.int .i32] (.var 12) (.var 6) true],aF),some ([.vec [.int .u8] (.var 13) (.var 7) true],aF)]⟩
def aLF (P:Program) (fs:List B):Res SV:=cB G GI [(0,255),(0,8),(0,8),(0,8),((-9223372036854775808),9223372036854775807),(0,8),(0,8),(0,70000)] fs fun X=>gJ P X GB aKn dQ 4000 13 aTF
end Go.Proofs.Ytdldallkeheciaa
set_option maxRecDepth 100000
namespace Go.Proofs.Ytdldallkeheciaa
open Go Go.RowKit Sx Wi Lk
def fG (P:Program) (fs:List B):Res SV:=aLF P fs
def aLC:List B:=[]
def bZ:B:=(id bV)
def aTW:List B:=aJ bZ++aLC
def cD:B:=(.cmp .le (.lit 1) (.var 4))
def aTQ:List B:=aJ cD++aTW
def cH:B:=(.cmp .le (.var 4) (.lit 16))
def aVk:List B:=aJ cH++aTQ
def cJ:B:=(.cmp .le (.lit 1) (.var 3))
def aVo:List B:=aJ cJ++aVk
def cK:B:=(.cmp .le (.var 3) (.lit 4))
def aJT:List B:=aJ cK++aVo
def cL:B:=(.cmp .lt (.lit 524288) (.wrap .i64 (.op .mul (.op .mul (.var 2) (.var 4)) (.app 83 (.cons (.var 10) (.cons (.lit 0) (.cons (.lit 0) .nil)))))))
def aTB:List B:=aJ cL++aJT
def kN:B:=(.cmp .le (.op .add (.wrap .i64 (.op .mul (.op .mul (.var 2) (.var 4)) (.app 83 (.cons (.var 10) (.cons (.lit 0) (.cons (.lit 0) .nil)))))) (.lit 7)) (.lit 9223372036854775807))
def aJX:List B:=aJ kN++aTB
def kO:B:=(.cmp .lt (.lit 65536) (.op .quo (.op .add (.wrap .i64 (.op .mul (.op .mul (.var 2) (.var 4)) (.app 83 (.cons (.var 10) (.cons (.lit 0) (.cons (.lit 0) .nil)))))) (.lit 7)) (.lit 8)))
def aUJ:List B:=aJ kO++aJX
def aMa:List B:=aJ (B.neg kO)++aJX
def mL:B:=(.cmp .lt (.var 7) (.op .quo (.op .add (.wrap .i64 (.op .mul (.op .mul (.var 2) (.var 4)) (.app 83 (.cons (.var 10) (.cons (.lit 0) (.cons (.lit 0) .nil)))))) (.lit 7)) (.lit 8)))
def aOc:List B:=aJ mL++aMa
def aSE:List B:=aJ (B.neg mL)++aMa
def aHG:List B:=aJ (B.neg cL)++aJT
def cS:B:=(.cmp .lt (.lit 1) (.var 3))
def aGP:List B:=aJ cS++aHG
def cO:B:=(.cmp .lt (.lit 524288) (.wrap .i64 (.op .mul (.wrap .i64 (.op .mul (.op .mul (.var 2) (.var 4)) (.app 83 (.cons (.var 10) (.cons (.lit 0) (.cons (.lit 0) .nil)))))) (.app 83 (.cons (.var 10) (.cons (.lit 1) (.cons (.lit 0) .nil)))))))
def aSv:List B:=aJ cO++aGP
def gW:B:=(.cmp .le (.op .add (.wrap .i64 (.op .mul (.wrap .i64 (.op .mul (.op .mul (.var 2) (.var 4)) (.app 83 (.cons (.var 10) (.cons (.lit 0) (.cons (.lit 0) .nil)))))) (.app 83 (.cons (.var 10) (.cons (.lit 1) (.cons (.lit 0) .nil)))))) (.lit 7)) (.lit 9223372036854775807))
def aF7:List B:=aJ gW++aSv
def gV:B:=(.cmp .lt (.lit 65536) (.op .quo (.op .add (.wrap .i64 (.op .mul (.wrap .i64 (.op .mul (.op .mul (.var 2) (.var 4)) (.app 83 (.cons (.var 10) (.cons (.lit 0) (.cons (.lit 0) .nil)))))) (.app 83 (.cons (.var 10) (.cons (.lit 1) (.cons (.lit 0) .nil)))))) (.lit 7)) (.lit 8)))
def aNG:List B:=aJ gV++aF7
def aHu:List B:=aJ (B.neg gV)++aF7
def jZ:B:=(.cmp .lt (.var 7) (.op .quo (.op .add (.wrap .i64 (.op .mul (.wrap .i64 (.op .mul (.op .mul (.var 2) (.var 4)) (.app 83 (.cons (.var 10) (.cons (.lit 0) (.cons (.lit 0) .nil)))))) (.app 83 (.cons (.var 10) (.cons (.lit 1) (.cons (.lit 0) .nil)))))) (.lit 7)) (.lit 8)))
def aSR:List B:=aJ jZ++aHu
def aQk:List B:=aJ (B.neg jZ)++aHu
def aGx:List B:=aJ (B.neg cO)++aGP
def cZ:B:=(.cmp .lt (.lit 2) (.var 3))
def aH1:List B:=aJ cZ++aGx
def dS:B:=(.cmp .lt (.lit 524288) (.wrap .i64 (.op .mul (.wrap .i64 (.op .mul (.wrap .i64 (.op .mul (.op .mul (.var 2) (.var 4)) (.app 83 (.cons (.var 10) (.cons (.lit 0) (.cons (.lit 0) .nil)))))) (.app 83 (.cons (.var 10) (.cons (.lit 1) (.cons (.lit 0) .nil)))))) (.app 83 (.cons (.var 10) (.cons (.lit 2) (.cons (.lit 0) .nil)))))))
def aPP:List B:=aJ dS++aH1
def gS:B:=(.cmp .le (.op .add (.wrap .i64 (.op .mul (.wrap .i64 (.op .mul (.wrap .i64 (.op .mul (.op .mul (.var 2) (.var 4)) (.app 83 (.cons (.var 10) (.cons (.lit 0) (.cons (.lit 0) .nil)))))) (.app 83 (.cons (.var 10) (.cons (.lit 1) (.cons (.lit 0) .nil)))))) (.app 83 (.cons (.var 10) (.cons (.lit 2) (.cons (.lit 0) .nil)))))) (.lit 7)) (.lit 9223372036854775807))
def aHA:List B:=aJ gS++aPP
def gO:B:=(.cmp .lt (.lit 65536) (.op .quo (.op .add (.wrap .i64 (.op .mul (.wrap .i64 (.op .mul (.wrap .i64 (.op .mul (.op .mul (.var 2) (.var 4)) (.app 83 (.cons (.var 10) (.cons (.lit 0) (.cons (.lit 0) .nil)))))) (.app 83 (.cons (.var 10) (.cons (.lit 1) (.cons (.lit 0) .nil)))))) (.app 83 (.cons (.var 10) (.cons (.lit 2) (.cons (.lit 0) .nil)))))) (.lit 7)) (.lit 8)))
def aPJ:List B:=aJ gO++aHA
def aGK:List B:=aJ (B.neg gO)++aHA
def kA:B:=(.cmp .lt (.var 7) (.op .quo (.op .add (.wrap .i64 (.op .mul (.wrap .i64 (.op .mul (.wrap .i64 (.op .mul (.op .mul (.var 2) (.var 4)) (.app 83 (.cons (.var 10) (.cons (.lit 0) (.cons (.lit 0) .nil)))))) (.app 83 (.cons (.var 10) (.cons (.lit 1) (.cons (.lit 0) .nil)))))) (.app 83 (.cons (.var 10) (.cons (.lit 2) (.cons (.lit 0) .nil)))))) (.lit 7)) (.lit 8)))
def aO0:List B:=aJ kA++aGK
def aPu:List B:=aJ (B.neg kA)++aGK
def aGT:List B:=aJ (B.neg dS)++aH1
def eZ:B:=(.cmp .lt (.lit 3) (.var 3))
def aHw:List B:=aJ eZ++aGT
def jB:B:=(.cmp .lt (.lit 524288) (.wrap .i64 (.op .mul (.wrap .i64 (.op .mul (.wrap .i64 (.op .mul (.wrap .i64 (.op .mul (.op .mul (.var 2) (.var 4)) (.app 83 (.cons (.var 10) (.cons (.lit 0) (.cons (.lit 0) .nil)))))) (.app 83 (.cons (.var 10) (.cons (.lit 1) (.cons (.lit 0) .nil)))))) (.app 83 (.cons (.var 10) (.cons (.lit 2) (.cons (.lit 0) .nil)))))) (.app 83 (.cons (.var 10) (.cons (.lit 3) (.cons (.lit 0) .nil)))))))
def aOj:List B:=aJ jB++aHw
def gX:B:=(.cmp .le (.op .add (.wrap .i64 (.op .mul (.wrap .i64 (.op .mul (.wrap .i64 (.op .mul (.wrap .i64 (.op .mul (.op .mul (.var 2) (.var 4)) (.app 83 (.cons (.var 10) (.cons (.lit 0) (.cons (.lit 0) .nil)))))) (.app 83 (.cons (.var 10) (.cons (.lit 1) (.cons (.lit 0) .nil)))))) (.app 83 (.cons (.var 10) (.cons (.lit 2) (.cons (.lit 0) .nil)))))) (.app 83 (.cons (.var 10) (.cons (.lit 3) (.cons (.lit 0) .nil)))))) (.lit 7)) (.lit 9223372036854775807))
def aHg:List B:=aJ gX++aOj
def gT:B:=(.cmp .lt (.lit 65536) (.op .quo (.op .add (.wrap .i64 (.op .mul (.wrap .i64 (.op .mul (.wrap .i64 (.op .mul (.wrap .i64 (.op .mul (.op .mul (.var 2) (.var 4)) (.app 83 (.cons (.var 10) (.cons (.lit 0) (.cons (.lit 0) .nil)))))) (.app 83 (.cons (.var 10) (.cons (.lit 1) (.cons (.lit 0) .nil)))))) (.app 83 (.cons (.var 10) (.cons (.lit 2) (.cons (.lit 0) .nil)))))) (.app 83 (.cons (.var 10) (.cons (.lit 3) (.cons (.lit 0) .nil)))))) (.lit 7)) (.lit 8)))
def aQQ:List B:=aJ gT++aHg
def aGC:List B:=aJ (B.neg gT)++aHg
def jV:B:=(.cmp .lt (.var 7) (.op .quo (.op .add (.wrap .i64 (.op .mul (.wrap .i64 (.op .mul (.wrap .i64 (.op .mul (.wrap .i64 (.op .mul (.op .mul (.var 2) (.var 4)) (.app 83 (.cons (.var 10) (.cons (.lit 0) (.cons (.lit 0) .nil)))))) (.app 83 (.cons (.var 10) (.cons (.lit 1) (.cons (.lit 0) .nil)))))) (.app 83 (.cons (.var 10) (.cons (.lit 2) (.cons (.lit 0) .nil)))))) (.app 83 (.cons (.var 10) (.cons (.lit 3) (.cons (.lit 0) .nil)))))) (.lit 7)) (.lit 8)))
def aPB:List B:=aJ jV++aGC
def aQy:List B:=aJ (B.neg jV)++aGC
def aRo:List B:=aJ (B.neg jB)++aHw
def aHl:List B:=aJ gX++aRo
def aR5:List B:=aJ gT++aHl
def aHS:List B:=aJ (B.neg gT)++aHl
def aOK:List B:=aJ jV++aHS
def aSl:List B:=aJ (B.neg jV)++aHS
def aOp:List B:=aJ (B.neg eZ)++aGT
def aGi:List B:=aJ gS++aOp
def aSx:List B:=aJ gO++aGi
def aG7:List B:=aJ (B.neg gO)++aGi
def aOw:List B:=aJ kA++aG7
def aRr:List B:=aJ (B.neg kA)++aG7
def aQN:List B:=aJ (B.neg cZ)++aGx
def aHO:List B:=aJ gW++aQN
def aOu:List B:=aJ gV++aHO
def aGy:List B:=aJ (B.neg gV)++aHO
def aO4:List B:=aJ jZ++aGy
def aPR:List B:=aJ (B.neg jZ)++aGy
def aNI:List B:=aJ (B.neg cS)++aHG
def aGG:List B:=aJ kN++aNI
def aPe:List B:=aJ kO++aGG
def aGR:List B:=aJ (B.neg kO)++aGG
def aPr:List B:=aJ mL++aGR
def aNP:List B:=aJ (B.neg mL)++aGR
def aSj:List B:=aJ (B.neg bZ)++aLC
end Go.Proofs.Ytdldallkeheciaa
set_option maxRecDepth 100000
namespace Go.Proofs.Ytdldallkeheciaa
open Go Go.RowKit Sx Wi Lk
theorem aUa:fG Try.prog aUJ = .ok (.tuple [(.agg [(.int .i64 (.lit 3)),(.int .i64 (.app 72 (.cons (.var 0) (.cons (.var 1) (.cons (.var 2) (.cons (.var 3) (.cons (.var 4) (.cons (.var 5) (.cons (.var 6) (.cons (.var 7) (.cons (.var 8) (.cons (.var 9) (.cons (.var 10) .nil)))))))))))))]),(.bool (.lit false))]):=by kernel_rfl
theorem aSf:fG Try.prog aOc = .ok (.tuple [(.agg [(.int .i64 (.lit 5)),(.int .i64 (.app 72 (.cons (.var 0) (.cons (.var 1) (.cons (.var 2) (.cons (.var 3) (.cons (.var 4) (.cons (.var 5) (.cons (.var 6) (.cons (.var 7) (.cons (.var 8) (.cons (.var 9) (.cons (.var 10) .nil)))))))))))))]),(.bool (.lit false))]):=by kernel_rfl
theorem aQO:fG Try.prog aSE = .ok (.tuple [(.agg []),(.bool (.lit true))]):=by kernel_rfl
theorem aQU:fG Try.prog aNG = .ok (.tuple [(.agg [(.int .i64 (.lit 3)),(.int .i64 (.app 72 (.cons (.var 0) (.cons (.var 1) (.cons (.var 2) (.cons (.var 3) (.cons (.var 4) (.cons (.var 5) (.cons (.var 6) (.cons (.var 7) (.cons (.var 8) (.cons (.var 9) (.cons (.var 10) .nil)))))))))))))]),(.bool (.lit false))]):=by kernel_rfl
theorem aP4:fG Try.prog aSR = .ok (.tuple [(.agg [(.int .i64 (.lit 5)),(.int .i64 (.app 72 (.cons (.var 0) (.cons (.var 1) (.cons (.var 2) (.cons (.var 3) (.cons (.var 4) (.cons (.var 5) (.cons (.var 6) (.cons (.var 7) (.cons (.var 8) (.cons (.var 9) (.cons (.var 10) .nil)))))))))))))]),(.bool (.lit false))]):=by kernel_rfl
theorem aQs:fG Try.prog aQk = .ok (.tuple [(.agg []),(.bool (.lit true))]):=by kernel_rfl
theorem aPp:fG Try.prog aPJ = .ok (.tuple [(.agg [(.int .i64 (.lit 3)),(.int .i64 (.app 72 (.cons (.var 0) (.cons (.var 1) (.cons (.var 2) (.cons (.var 3) (.cons (.var 4) (.cons (.var 5) (.cons (.var 6) (.cons (.var 7) (.cons (.var 8) (.cons (.var 9) (.cons (.var 10) .nil)))))))))))))]),(.bool (.lit false))]):=by kernel_rfl
theorem aSB:fG Try.prog aO0 = .ok (.tuple [(.agg [(.int .i64 (.lit 5)),(.int .i64 (.app 72 (.cons (.var 0) (.cons (.var 1) (.cons (.var 2) (.cons (.var 3) (.cons (.var 4) (.cons (.var 5) (.cons (.var 6) (.cons (.var 7) (.cons (.var 8) (.cons (.var 9) (.cons (.var 10) .nil)))))))))))))]),(.bool (.lit false))]):=by kernel_rfl
theorem aNz:fG Try.prog aPu = .ok (.tuple [(.agg []),(.bool (.lit true))]):=by kernel_rfl
theorem aRx:fG Try.prog aQQ = .ok (.tuple [(.agg [(.int .i64 (.lit 3)),(.int .i64 (.app 72 (.cons (.var 0) (.cons (.var 1) (.cons (.var 2) (.cons (.var 3) (.cons (.var 4) (.cons (.var 5) (.cons (.var 6) (.cons (.var 7) (.cons (.var 8) (.cons (.var 9) (.cons (.var 10) .nil)))))))))))))]),(.bool (.lit false))]):=by kernel_rfl
theorem aOX:fG Try.prog aPB = .ok (.tuple [(.agg [(.int .i64 (.lit 5)),(.int .i64 (.app 72 (.cons (.var 0) (.cons (.var 1) (.cons (.var 2) (.cons (.var 3) (.cons (.var 4) (.cons (.var 5) (.cons (.var 6) (.cons (.var 7) (.cons (.var 8) (.cons (.var 9) (.cons (.var 10) .nil)))))))))))))]),(.bool (.lit false))]):=by kernel_rfl
theorem aPz:fG Try.prog aQy = .ok (.tuple [(.agg []),(.bool (.lit true))]):=by kernel_rfl
theorem aOy:fG Try.prog aR5 = .ok (.tuple [(.agg [(.int .i64 (.lit 3)),(.int .i64 (.app 72 (.cons (.var 0) (.cons (.var 1) (.cons (.var 2) (.cons (.var 3) (.cons (.var 4) (.cons (.var 5) (.cons (.var 6) (.cons (.var 7) (.cons (.var 8) (.cons (.var 9) (.cons (.var 10) .nil)))))))))))))]),(.bool (.lit false))]):=by kernel_rfl
theorem aSa:fG Try.prog aOK = .ok (.tuple [(.agg [(.int .i64 (.lit 5)),(.int .i64 (.app 72 (.cons (.var 0) (.cons (.var 1) (.cons (.var 2) (.cons (.var 3) (.cons (.var 4) (.cons (.var 5) (.cons (.var 6) (.cons (.var 7) (.cons (.var 8) (.cons (.var 9) (.cons (.var 10) .nil)))))))))))))]),(.bool (.lit false))]):=by kernel_rfl
theorem aO1:fG Try.prog aSl = .ok (.tuple [(.agg []),(.bool (.lit true))]):=by kernel_rfl
theorem aPx:fG Try.prog aSx = .ok (.tuple [(.agg [(.int .i64 (.lit 3)),(.int .i64 (.app 72 (.cons (.var 0) (.cons (.var 1) (.cons (.var 2) (.cons (.var 3) (.cons (.var 4) (.cons (.var 5) (.cons (.var 6) (.cons (.var 7) (.cons (.var 8) (.cons (.var 9) (.cons (.var 10) .nil)))))))))))))]),(.bool (.lit false))]):=by kernel_rfl
theorem aSS:fG Try.prog aOw = .ok (.tuple [(.agg [(.int .i64 (.lit 5)),(.int .i64 (.app 72 (.cons (.var 0) (.cons (.var 1) (.cons (.var 2) (.cons (.var 3) (.cons (.var 4) (.cons (.var 5) (.cons (.var 6) (.cons (.var 7) (.cons (.var 8) (.cons (.var 9) (.cons (.var 10) .nil)))))))))))))]),(.bool (.lit false))]):=by kernel_rfl
theorem aPG:fG Try.prog aRr = .ok (.tuple [(.agg []),(.bool (.lit true))]):=by kernel_rfl
theorem aPy:fG Try.prog aOu = .ok (.tuple [(.agg [(.int .i64 (.lit 3)),(.int .i64 (.app 72 (.cons (.var 0) (.cons (.var 1) (.cons (.var 2) (.cons (.var 3) (.cons (.var 4) (.cons (.var 5) (.cons (.var 6) (.cons (.var 7) (.cons (.var 8) (.cons (.var 9) (.cons (.var 10) .nil)))))))))))))]),(.bool (.lit false))]):=by kernel_rfl
theorem aRs:fG Try.prog aO4 = .ok (.tuple [(.agg [(.int .i64 (.lit 5)),(.int .i64 (.app 72 (.cons (.var 0) (.cons (.var 1) (.cons (.var 2) (.cons (.var 3) (.cons (.var 4) (.cons (.var 5) (.cons (.var 6) (.cons (.var 7) (.cons (.var 8) (.cons (.var 9) (.cons (.var 10) .nil)))))))))))))]),(.bool (.lit false))]):=by kernel_rfl
end Go.Proofs.Ytdldallkeheciaa
set_option maxRecDepth 100000
namespace Go.Proofs.Ytdldallkeheciaa
open Go Go.RowKit Sx Wi Lk
theorem aRW:fG Try.prog aPR = .ok (.tuple [(.agg []),(.bool (.lit true))]):=by kernel_rfl
theorem aQ7:fG Try.prog aPe = .ok (.tuple [(.agg [(.int .i64 (.lit 3)),(.int .i64 (.app 72 (.cons (.var 0) (.cons (.var 1) (.cons (.var 2) (.cons (.var 3) (.cons (.var 4) (.cons (.var 5) (.cons (.var 6) (.cons (.var 7) (.cons (.var 8) (.cons (.var 9) (.cons (.var 10) .nil)))))))))))))]),(.bool (.lit false))]):=by kernel_rfl
theorem aSC:fG Try.prog aPr = .ok (.tuple [(.agg [(.int .i64 (.lit 5)),(.int .i64 (.app 72 (.cons (.var 0) (.cons (.var 1) (.cons (.var 2) (.cons (.var 3) (.cons (.var 4) (.cons (.var 5) (.cons (.var 6) (.cons (.var 7) (.cons (.var 8) (.cons (.var 9) (.cons (.var 10) .nil)))))))))))))]),(.bool (.lit false))]):=by kernel_rfl
theorem aP9:fG Try.prog aNP = .ok (.tuple [(.agg []),(.bool (.lit true))]):=by kernel_rfl
theorem aQR:fG Try.prog aSj = .ok (.tuple [(.agg [(.int .i64 (.lit 4)),(.int .i64 (.app 72 (.cons (.var 0) (.cons (.var 1) (.cons (.var 2) (.cons (.var 3) (.cons (.var 4) (.cons (.var 5) (.cons (.var 6) (.cons (.var 7) (.cons (.var 8) (.cons (.var 9) (.cons (.var 10) .nil)))))))))))))]),(.bool (.lit false))]):=by kernel_rfl
end Go.Proofs.Ytdldallkeheciaa
