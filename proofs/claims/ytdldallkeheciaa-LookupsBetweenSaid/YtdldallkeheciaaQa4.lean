/- What is proved: the run of a function over its ways,and what is known on each. No condition. -/
import Derived.Test.YtdldallkeheciaaQa3
import Derived.Test.YtdldallkeheciaaQa1
import Derived.Test.YtdldallkeheciaaQg4
import Derived.Test.YtdldallkeheciaaProg
set_option linter.unusedSimpArgs false
set_option linter.unusedVariables false
set_option maxRecDepth 100000
namespace Go.Proofs.Ytdldallkeheciaa
open Go Go.RowKit Sx Wi Lk
def kX (P:Program) (fs:List B):Res SV:=aIf P fs
def aK9:List B:=[]
def fC:B:=(.cmp .eq (.var 0) (.lit 1))
def aK7:List B:=aI fC++aK9
def fP:B:=(.cmp .lt (.lit 0) (.var 1))
def aHS:List B:=aI fP++aK7
def fV:B:=(.cmp .le (.var 1) (.lit 4))
def aJ4:List B:=aI fV++aHS
def gR:B:=(.or (.and (.cmp .lt (.lit 0) (.var 1)) (.cmp .le (.app 82 (.cons (.var 8) (.cons (.lit 0) (.cons (.lit 1) .nil)))) (.app 82 (.cons (.var 8) (.cons (.lit 0) (.cons (.lit 0) .nil)))))) (.or (.and (.cmp .lt (.lit 1) (.var 1)) (.cmp .le (.app 82 (.cons (.var 8) (.cons (.lit 1) (.cons (.lit 1) .nil)))) (.app 82 (.cons (.var 8) (.cons (.lit 1) (.cons (.lit 0) .nil)))))) (.or (.and (.cmp .lt (.lit 2) (.var 1)) (.cmp .le (.app 82 (.cons (.var 8) (.cons (.lit 2) (.cons (.lit 1) .nil)))) (.app 82 (.cons (.var 8) (.cons (.lit 2) (.cons (.lit 0) .nil)))))) (.and (.cmp .lt (.lit 3) (.var 1)) (.cmp .le (.app 82 (.cons (.var 8) (.cons (.lit 3) (.cons (.lit 1) .nil)))) (.app 82 (.cons (.var 8) (.cons (.lit 3) (.cons (.lit 0) .nil)))))))))
def aRz:List B:=aI gR++aJ4
def dX:SV:=(.tuple [(.agg [(.bool (.lit false)),(.bool (.and (.cmp .eq (.var 0) (.lit 1)) (.and (.cmp .lt (.lit 0) (.var 1)) (.and (.cmp .le (.var 1) (.lit 4)) (.and (.and (.or (.cmp .le (.var 1) (.lit 0)) (.cmp .lt (.app 82 (.cons (.var 8) (.cons (.lit 0) (.cons (.lit 0) .nil)))) (.app 82 (.cons (.var 8) (.cons (.lit 0) (.cons (.lit 1) .nil)))))) (.and (.or (.cmp .le (.var 1) (.lit 1)) (.cmp .lt (.app 82 (.cons (.var 8) (.cons (.lit 1) (.cons (.lit 0) .nil)))) (.app 82 (.cons (.var 8) (.cons (.lit 1) (.cons (.lit 1) .nil)))))) (.and (.or (.cmp .le (.var 1) (.lit 2)) (.cmp .lt (.app 82 (.cons (.var 8) (.cons (.lit 2) (.cons (.lit 0) .nil)))) (.app 82 (.cons (.var 8) (.cons (.lit 2) (.cons (.lit 1) .nil)))))) (.or (.cmp .le (.var 1) (.lit 3)) (.cmp .lt (.app 82 (.cons (.var 8) (.cons (.lit 3) (.cons (.lit 0) .nil)))) (.app 82 (.cons (.var 8) (.cons (.lit 3) (.cons (.lit 1) .nil))))))))) (.and (.cmp .lt (.lit 0) (.var 2)) (.and (.cmp .le (.var 2) (.lit 4)) (.and (.and (.or (.cmp .le (.var 2) (.lit 0)) (.cmp .le (.app 82 (.cons (.var 9) (.cons (.lit 0) (.cons (.lit 0) .nil)))) (.app 82 (.cons (.var 9) (.cons (.lit 0) (.cons (.lit 1) .nil)))))) (.and (.or (.cmp .le (.var 2) (.lit 1)) (.cmp .le (.app 82 (.cons (.var 9) (.cons (.lit 1) (.cons (.lit 0) .nil)))) (.app 82 (.cons (.var 9) (.cons (.lit 1) (.cons (.lit 1) .nil)))))) (.and (.or (.cmp .le (.var 2) (.lit 2)) (.cmp .le (.app 82 (.cons (.var 9) (.cons (.lit 2) (.cons (.lit 0) .nil)))) (.app 82 (.cons (.var 9) (.cons (.lit 2) (.cons (.lit 1) .nil)))))) (.or (.cmp .le (.var 2) (.lit 3)) (.cmp .le (.app 82 (.cons (.var 9) (.cons (.lit 3) (.cons (.lit 0) .nil)))) (.app 82 (.cons (.var 9) (.cons (.lit 3) (.cons (.lit 1) .nil))))))))) (.and (.cmp .eq (.var 3) (.var 1)) (.and (.and (.or (.cmp .le (.var 3) (.lit 0)) (.and (.cmp .le (.lit 1) (.app 83 (.cons (.var 10) (.cons (.lit 0) (.cons (.lit 0) .nil))))) (.cmp .le (.app 83 (.cons (.var 10) (.cons (.lit 0) (.cons (.lit 0) .nil)))) (.lit 256)))) (.and (.or (.cmp .le (.var 3) (.lit 1)) (.and (.cmp .le (.lit 1) (.app 83 (.cons (.var 10) (.cons (.lit 1) (.cons (.lit 0) .nil))))) (.cmp .le (.app 83 (.cons (.var 10) (.cons (.lit 1) (.cons (.lit 0) .nil)))) (.lit 256)))) (.and (.or (.cmp .le (.var 3) (.lit 2)) (.and (.cmp .le (.lit 1) (.app 83 (.cons (.var 10) (.cons (.lit 2) (.cons (.lit 0) .nil))))) (.cmp .le (.app 83 (.cons (.var 10) (.cons (.lit 2) (.cons (.lit 0) .nil)))) (.lit 256)))) (.and (.or (.cmp .le (.var 3) (.lit 3)) (.and (.cmp .le (.lit 1) (.app 83 (.cons (.var 10) (.cons (.lit 3) (.cons (.lit 0) .nil))))) (.cmp .le (.app 83 (.cons (.var 10) (.cons (.lit 3) (.cons (.lit 0) .nil)))) (.lit 256)))) (.and (.or (.cmp .le (.var 3) (.lit 4)) (.and (.cmp .le (.lit 1) (.app 83 (.cons (.var 10) (.cons (.lit 4) (.cons (.lit 0) .nil))))) (.cmp .le (.app 83 (.cons (.var 10) (.cons (.lit 4) (.cons (.lit 0) .nil)))) (.lit 256)))) (.and (.or (.cmp .le (.var 3) (.lit 5)) (.and (.cmp .le (.lit 1) (.app 83 (.cons (.var 10) (.cons (.lit 5) (.cons (.lit 0) .nil))))) (.cmp .le (.app 83 (.cons (.var 10) (.cons (.lit 5) (.cons (.lit 0) .nil)))) (.lit 256)))) (.and (.or (.cmp .le (.var 3) (.lit 6)) (.and (.cmp .le (.lit 1) (.app 83 (.cons (.var 10) (.cons (.lit 6) (.cons (.lit 0) .nil))))) (.cmp .le (.app 83 (.cons (.var 10) (.cons (.lit 6) (.cons (.lit 0) .nil)))) (.lit 256)))) (.or (.cmp .le (.var 3) (.lit 7)) (.and (.cmp .le (.lit 1) (.app 83 (.cons (.var 10) (.cons (.lit 7) (.cons (.lit 0) .nil))))) (.cmp .le (.app 83 (.cons (.var 10) (.cons (.lit 7) (.cons (.lit 0) .nil)))) (.lit 256))))))))))) (.and (.or (.cmp .eq (.var 4) (.lit 1)) (.or (.cmp .eq (.var 4) (.lit 2)) (.or (.cmp .eq (.var 4) (.lit 4)) (.or (.cmp .eq (.var 4) (.lit 8)) (.or (.cmp .eq (.var 4) (.lit 12)) (.cmp .eq (.var 4) (.lit 16))))))) (.and (.or (.cmp .eq (.var 5) (.lit 0)) (.cmp .eq (.var 5) (.var 1))) (.or (.cmp .eq (.var 6) (.lit 0)) (.cmp .eq (.var 6) (.var 2)))))))))))))))]),(.bool (.lit true))])
def aJ8:List B:=aI (B.neg gR)++aJ4
def iC:B:=(.cmp .lt (.lit 0) (.var 2))
def aK4:List B:=aI iC++aJ8
def iX:B:=(.cmp .le (.var 2) (.lit 4))
def aI7:List B:=aI iX++aK4
def kF:B:=(.or (.and (.cmp .lt (.lit 0) (.var 2)) (.cmp .lt (.app 82 (.cons (.var 9) (.cons (.lit 0) (.cons (.lit 1) .nil)))) (.app 82 (.cons (.var 9) (.cons (.lit 0) (.cons (.lit 0) .nil)))))) (.or (.and (.cmp .lt (.lit 1) (.var 2)) (.cmp .lt (.app 82 (.cons (.var 9) (.cons (.lit 1) (.cons (.lit 1) .nil)))) (.app 82 (.cons (.var 9) (.cons (.lit 1) (.cons (.lit 0) .nil)))))) (.or (.and (.cmp .lt (.lit 2) (.var 2)) (.cmp .lt (.app 82 (.cons (.var 9) (.cons (.lit 2) (.cons (.lit 1) .nil)))) (.app 82 (.cons (.var 9) (.cons (.lit 2) (.cons (.lit 0) .nil)))))) (.and (.cmp .lt (.lit 3) (.var 2)) (.cmp .lt (.app 82 (.cons (.var 9) (.cons (.lit 3) (.cons (.lit 1) .nil)))) (.app 82 (.cons (.var 9) (.cons (.lit 3) (.cons (.lit 0) .nil)))))))))
def aRR:List B:=aI kF++aI7
def aKp:List B:=aI (B.neg kF)++aI7
def lK:B:=(.cmp .eq (.var 3) (.var 1))
def aFq:List B:=aI lK++aKp
def mG:B:=(.or (.and (.cmp .lt (.lit 0) (.var 3)) (.or (.cmp .lt (.app 83 (.cons (.var 10) (.cons (.lit 0) (.cons (.lit 0) .nil)))) (.lit 1)) (.cmp .lt (.lit 256) (.app 83 (.cons (.var 10) (.cons (.lit 0) (.cons (.lit 0) .nil))))))) (.or (.and (.cmp .lt (.lit 1) (.var 3)) (.or (.cmp .lt (.app 83 (.cons (.var 10) (.cons (.lit 1) (.cons (.lit 0) .nil)))) (.lit 1)) (.cmp .lt (.lit 256) (.app 83 (.cons (.var 10) (.cons (.lit 1) (.cons (.lit 0) .nil))))))) (.or (.and (.cmp .lt (.lit 2) (.var 3)) (.or (.cmp .lt (.app 83 (.cons (.var 10) (.cons (.lit 2) (.cons (.lit 0) .nil)))) (.lit 1)) (.cmp .lt (.lit 256) (.app 83 (.cons (.var 10) (.cons (.lit 2) (.cons (.lit 0) .nil))))))) (.or (.and (.cmp .lt (.lit 3) (.var 3)) (.or (.cmp .lt (.app 83 (.cons (.var 10) (.cons (.lit 3) (.cons (.lit 0) .nil)))) (.lit 1)) (.cmp .lt (.lit 256) (.app 83 (.cons (.var 10) (.cons (.lit 3) (.cons (.lit 0) .nil))))))) (.or (.and (.cmp .lt (.lit 4) (.var 3)) (.or (.cmp .lt (.app 83 (.cons (.var 10) (.cons (.lit 4) (.cons (.lit 0) .nil)))) (.lit 1)) (.cmp .lt (.lit 256) (.app 83 (.cons (.var 10) (.cons (.lit 4) (.cons (.lit 0) .nil))))))) (.or (.and (.cmp .lt (.lit 5) (.var 3)) (.or (.cmp .lt (.app 83 (.cons (.var 10) (.cons (.lit 5) (.cons (.lit 0) .nil)))) (.lit 1)) (.cmp .lt (.lit 256) (.app 83 (.cons (.var 10) (.cons (.lit 5) (.cons (.lit 0) .nil))))))) (.or (.and (.cmp .lt (.lit 6) (.var 3)) (.or (.cmp .lt (.app 83 (.cons (.var 10) (.cons (.lit 6) (.cons (.lit 0) .nil)))) (.lit 1)) (.cmp .lt (.lit 256) (.app 83 (.cons (.var 10) (.cons (.lit 6) (.cons (.lit 0) .nil))))))) (.and (.cmp .lt (.lit 7) (.var 3)) (.or (.cmp .lt (.app 83 (.cons (.var 10) (.cons (.lit 7) (.cons (.lit 0) .nil)))) (.lit 1)) (.cmp .lt (.lit 256) (.app 83 (.cons (.var 10) (.cons (.lit 7) (.cons (.lit 0) .nil))))))))))))))
def aMu:List B:=aI mG++aFq
def aE6:List B:=aI (B.neg mG)++aFq
def oD:B:=(.or (.cmp .eq (.var 4) (.lit 1)) (.or (.cmp .eq (.var 4) (.lit 2)) (.or (.cmp .eq (.var 4) (.lit 4)) (.or (.cmp .eq (.var 4) (.lit 8)) (.or (.cmp .eq (.var 4) (.lit 12)) (.cmp .eq (.var 4) (.lit 16)))))))
def aFK:List B:=aI oD++aE6
def lY:B:=(.cmp .eq (.var 5) (.lit 0))
def aGI:List B:=aI lY++aFK
def jK:B:=(.cmp .eq (.var 6) (.lit 0))
def aMk:List B:=aI jK++aGI
def aBd:SV:=(.tuple [(.agg [(.bool (.lit true)),(.bool (.and (.cmp .eq (.var 0) (.lit 1)) (.and (.cmp .lt (.lit 0) (.var 1)) (.and (.cmp .le (.var 1) (.lit 4)) (.and (.and (.or (.cmp .le (.var 1) (.lit 0)) (.cmp .lt (.app 82 (.cons (.var 8) (.cons (.lit 0) (.cons (.lit 0) .nil)))) (.app 82 (.cons (.var 8) (.cons (.lit 0) (.cons (.lit 1) .nil)))))) (.and (.or (.cmp .le (.var 1) (.lit 1)) (.cmp .lt (.app 82 (.cons (.var 8) (.cons (.lit 1) (.cons (.lit 0) .nil)))) (.app 82 (.cons (.var 8) (.cons (.lit 1) (.cons (.lit 1) .nil)))))) (.and (.or (.cmp .le (.var 1) (.lit 2)) (.cmp .lt (.app 82 (.cons (.var 8) (.cons (.lit 2) (.cons (.lit 0) .nil)))) (.app 82 (.cons (.var 8) (.cons (.lit 2) (.cons (.lit 1) .nil)))))) (.or (.cmp .le (.var 1) (.lit 3)) (.cmp .lt (.app 82 (.cons (.var 8) (.cons (.lit 3) (.cons (.lit 0) .nil)))) (.app 82 (.cons (.var 8) (.cons (.lit 3) (.cons (.lit 1) .nil))))))))) (.and (.cmp .lt (.lit 0) (.var 2)) (.and (.cmp .le (.var 2) (.lit 4)) (.and (.and (.or (.cmp .le (.var 2) (.lit 0)) (.cmp .le (.app 82 (.cons (.var 9) (.cons (.lit 0) (.cons (.lit 0) .nil)))) (.app 82 (.cons (.var 9) (.cons (.lit 0) (.cons (.lit 1) .nil)))))) (.and (.or (.cmp .le (.var 2) (.lit 1)) (.cmp .le (.app 82 (.cons (.var 9) (.cons (.lit 1) (.cons (.lit 0) .nil)))) (.app 82 (.cons (.var 9) (.cons (.lit 1) (.cons (.lit 1) .nil)))))) (.and (.or (.cmp .le (.var 2) (.lit 2)) (.cmp .le (.app 82 (.cons (.var 9) (.cons (.lit 2) (.cons (.lit 0) .nil)))) (.app 82 (.cons (.var 9) (.cons (.lit 2) (.cons (.lit 1) .nil)))))) (.or (.cmp .le (.var 2) (.lit 3)) (.cmp .le (.app 82 (.cons (.var 9) (.cons (.lit 3) (.cons (.lit 0) .nil)))) (.app 82 (.cons (.var 9) (.cons (.lit 3) (.cons (.lit 1) .nil))))))))) (.and (.cmp .eq (.var 3) (.var 1)) (.and (.and (.or (.cmp .le (.var 3) (.lit 0)) (.and (.cmp .le (.lit 1) (.app 83 (.cons (.var 10) (.cons (.lit 0) (.cons (.lit 0) .nil))))) (.cmp .le (.app 83 (.cons (.var 10) (.cons (.lit 0) (.cons (.lit 0) .nil)))) (.lit 256)))) (.and (.or (.cmp .le (.var 3) (.lit 1)) (.and (.cmp .le (.lit 1) (.app 83 (.cons (.var 10) (.cons (.lit 1) (.cons (.lit 0) .nil))))) (.cmp .le (.app 83 (.cons (.var 10) (.cons (.lit 1) (.cons (.lit 0) .nil)))) (.lit 256)))) (.and (.or (.cmp .le (.var 3) (.lit 2)) (.and (.cmp .le (.lit 1) (.app 83 (.cons (.var 10) (.cons (.lit 2) (.cons (.lit 0) .nil))))) (.cmp .le (.app 83 (.cons (.var 10) (.cons (.lit 2) (.cons (.lit 0) .nil)))) (.lit 256)))) (.and (.or (.cmp .le (.var 3) (.lit 3)) (.and (.cmp .le (.lit 1) (.app 83 (.cons (.var 10) (.cons (.lit 3) (.cons (.lit 0) .nil))))) (.cmp .le (.app 83 (.cons (.var 10) (.cons (.lit 3) (.cons (.lit 0) .nil)))) (.lit 256)))) (.and (.or (.cmp .le (.var 3) (.lit 4)) (.and (.cmp .le (.lit 1) (.app 83 (.cons (.var 10) (.cons (.lit 4) (.cons (.lit 0) .nil))))) (.cmp .le (.app 83 (.cons (.var 10) (.cons (.lit 4) (.cons (.lit 0) .nil)))) (.lit 256)))) (.and (.or (.cmp .le (.var 3) (.lit 5)) (.and (.cmp .le (.lit 1) (.app 83 (.cons (.var 10) (.cons (.lit 5) (.cons (.lit 0) .nil))))) (.cmp .le (.app 83 (.cons (.var 10) (.cons (.lit 5) (.cons (.lit 0) .nil)))) (.lit 256)))) (.and (.or (.cmp .le (.var 3) (.lit 6)) (.and (.cmp .le (.lit 1) (.app 83 (.cons (.var 10) (.cons (.lit 6) (.cons (.lit 0) .nil))))) (.cmp .le (.app 83 (.cons (.var 10) (.cons (.lit 6) (.cons (.lit 0) .nil)))) (.lit 256)))) (.or (.cmp .le (.var 3) (.lit 7)) (.and (.cmp .le (.lit 1) (.app 83 (.cons (.var 10) (.cons (.lit 7) (.cons (.lit 0) .nil))))) (.cmp .le (.app 83 (.cons (.var 10) (.cons (.lit 7) (.cons (.lit 0) .nil)))) (.lit 256))))))))))) (.and (.or (.cmp .eq (.var 4) (.lit 1)) (.or (.cmp .eq (.var 4) (.lit 2)) (.or (.cmp .eq (.var 4) (.lit 4)) (.or (.cmp .eq (.var 4) (.lit 8)) (.or (.cmp .eq (.var 4) (.lit 12)) (.cmp .eq (.var 4) (.lit 16))))))) (.and (.or (.cmp .eq (.var 5) (.lit 0)) (.cmp .eq (.var 5) (.var 1))) (.or (.cmp .eq (.var 6) (.lit 0)) (.cmp .eq (.var 6) (.var 2)))))))))))))))]),(.bool (.lit true))])
def aQE:List B:=aI (B.neg jK)++aGI
def aBb:SV:=(.tuple [(.agg [(.bool (.cmp .eq (.var 6) (.var 2))),(.bool (.and (.cmp .eq (.var 0) (.lit 1)) (.and (.cmp .lt (.lit 0) (.var 1)) (.and (.cmp .le (.var 1) (.lit 4)) (.and (.and (.or (.cmp .le (.var 1) (.lit 0)) (.cmp .lt (.app 82 (.cons (.var 8) (.cons (.lit 0) (.cons (.lit 0) .nil)))) (.app 82 (.cons (.var 8) (.cons (.lit 0) (.cons (.lit 1) .nil)))))) (.and (.or (.cmp .le (.var 1) (.lit 1)) (.cmp .lt (.app 82 (.cons (.var 8) (.cons (.lit 1) (.cons (.lit 0) .nil)))) (.app 82 (.cons (.var 8) (.cons (.lit 1) (.cons (.lit 1) .nil)))))) (.and (.or (.cmp .le (.var 1) (.lit 2)) (.cmp .lt (.app 82 (.cons (.var 8) (.cons (.lit 2) (.cons (.lit 0) .nil)))) (.app 82 (.cons (.var 8) (.cons (.lit 2) (.cons (.lit 1) .nil)))))) (.or (.cmp .le (.var 1) (.lit 3)) (.cmp .lt (.app 82 (.cons (.var 8) (.cons (.lit 3) (.cons (.lit 0) .nil)))) (.app 82 (.cons (.var 8) (.cons (.lit 3) (.cons (.lit 1) .nil))))))))) (.and (.cmp .lt (.lit 0) (.var 2)) (.and (.cmp .le (.var 2) (.lit 4)) (.and (.and (.or (.cmp .le (.var 2) (.lit 0)) (.cmp .le (.app 82 (.cons (.var 9) (.cons (.lit 0) (.cons (.lit 0) .nil)))) (.app 82 (.cons (.var 9) (.cons (.lit 0) (.cons (.lit 1) .nil)))))) (.and (.or (.cmp .le (.var 2) (.lit 1)) (.cmp .le (.app 82 (.cons (.var 9) (.cons (.lit 1) (.cons (.lit 0) .nil)))) (.app 82 (.cons (.var 9) (.cons (.lit 1) (.cons (.lit 1) .nil)))))) (.and (.or (.cmp .le (.var 2) (.lit 2)) (.cmp .le (.app 82 (.cons (.var 9) (.cons (.lit 2) (.cons (.lit 0) .nil)))) (.app 82 (.cons (.var 9) (.cons (.lit 2) (.cons (.lit 1) .nil)))))) (.or (.cmp .le (.var 2) (.lit 3)) (.cmp .le (.app 82 (.cons (.var 9) (.cons (.lit 3) (.cons (.lit 0) .nil)))) (.app 82 (.cons (.var 9) (.cons (.lit 3) (.cons (.lit 1) .nil))))))))) (.and (.cmp .eq (.var 3) (.var 1)) (.and (.and (.or (.cmp .le (.var 3) (.lit 0)) (.and (.cmp .le (.lit 1) (.app 83 (.cons (.var 10) (.cons (.lit 0) (.cons (.lit 0) .nil))))) (.cmp .le (.app 83 (.cons (.var 10) (.cons (.lit 0) (.cons (.lit 0) .nil)))) (.lit 256)))) (.and (.or (.cmp .le (.var 3) (.lit 1)) (.and (.cmp .le (.lit 1) (.app 83 (.cons (.var 10) (.cons (.lit 1) (.cons (.lit 0) .nil))))) (.cmp .le (.app 83 (.cons (.var 10) (.cons (.lit 1) (.cons (.lit 0) .nil)))) (.lit 256)))) (.and (.or (.cmp .le (.var 3) (.lit 2)) (.and (.cmp .le (.lit 1) (.app 83 (.cons (.var 10) (.cons (.lit 2) (.cons (.lit 0) .nil))))) (.cmp .le (.app 83 (.cons (.var 10) (.cons (.lit 2) (.cons (.lit 0) .nil)))) (.lit 256)))) (.and (.or (.cmp .le (.var 3) (.lit 3)) (.and (.cmp .le (.lit 1) (.app 83 (.cons (.var 10) (.cons (.lit 3) (.cons (.lit 0) .nil))))) (.cmp .le (.app 83 (.cons (.var 10) (.cons (.lit 3) (.cons (.lit 0) .nil)))) (.lit 256)))) (.and (.or (.cmp .le (.var 3) (.lit 4)) (.and (.cmp .le (.lit 1) (.app 83 (.cons (.var 10) (.cons (.lit 4) (.cons (.lit 0) .nil))))) (.cmp .le (.app 83 (.cons (.var 10) (.cons (.lit 4) (.cons (.lit 0) .nil)))) (.lit 256)))) (.and (.or (.cmp .le (.var 3) (.lit 5)) (.and (.cmp .le (.lit 1) (.app 83 (.cons (.var 10) (.cons (.lit 5) (.cons (.lit 0) .nil))))) (.cmp .le (.app 83 (.cons (.var 10) (.cons (.lit 5) (.cons (.lit 0) .nil)))) (.lit 256)))) (.and (.or (.cmp .le (.var 3) (.lit 6)) (.and (.cmp .le (.lit 1) (.app 83 (.cons (.var 10) (.cons (.lit 6) (.cons (.lit 0) .nil))))) (.cmp .le (.app 83 (.cons (.var 10) (.cons (.lit 6) (.cons (.lit 0) .nil)))) (.lit 256)))) (.or (.cmp .le (.var 3) (.lit 7)) (.and (.cmp .le (.lit 1) (.app 83 (.cons (.var 10) (.cons (.lit 7) (.cons (.lit 0) .nil))))) (.cmp .le (.app 83 (.cons (.var 10) (.cons (.lit 7) (.cons (.lit 0) .nil)))) (.lit 256))))))))))) (.and (.or (.cmp .eq (.var 4) (.lit 1)) (.or (.cmp .eq (.var 4) (.lit 2)) (.or (.cmp .eq (.var 4) (.lit 4)) (.or (.cmp .eq (.var 4) (.lit 8)) (.or (.cmp .eq (.var 4) (.lit 12)) (.cmp .eq (.var 4) (.lit 16))))))) (.and (.or (.cmp .eq (.var 5) (.lit 0)) (.cmp .eq (.var 5) (.var 1))) (.or (.cmp .eq (.var 6) (.lit 0)) (.cmp .eq (.var 6) (.var 2)))))))))))))))]),(.bool (.lit true))])
def aFh:List B:=aI (B.neg lY)++aFK
def qF:B:=(.cmp .eq (.var 5) (.var 1))
def aGh:List B:=aI qF++aFh
def aNC:List B:=aI jK++aGh
def aOK:List B:=aI (B.neg jK)++aGh
def aOJ:List B:=aI (B.neg qF)++aFh
def aLO:List B:=aI (B.neg oD)++aE6
def aNo:List B:=aI (B.neg lK)++aKp
def aPe:List B:=aI (B.neg iX)++aK4
def aPg:List B:=aI (B.neg iC)++aJ8
def aPc:List B:=aI (B.neg fV)++aHS
def aQt:List B:=aI (B.neg fP)++aK7
def aMC:List B:=aI (B.neg fC)++aK9
theorem aRg:kX Try.prog aRz = .ok dX:=by kernel_rfl
theorem aRy:kX Try.prog aRR = .ok dX:=by kernel_rfl
theorem aLJ:kX Try.prog aMu = .ok dX:=by kernel_rfl
theorem aQr:kX Try.prog aMk = .ok aBd:=by kernel_rfl
theorem aMa:kX Try.prog aQE = .ok aBb:=by kernel_rfl
theorem aQi:kX Try.prog aNC = .ok aBd:=by kernel_rfl
theorem aNV:kX Try.prog aOK = .ok aBb:=by kernel_rfl
theorem aP4:kX Try.prog aOJ = .ok dX:=by kernel_rfl
theorem aND:kX Try.prog aLO = .ok dX:=by kernel_rfl
theorem aQl:kX Try.prog aNo = .ok dX:=by kernel_rfl
theorem aNr:kX Try.prog aPe = .ok dX:=by kernel_rfl
theorem aOX:kX Try.prog aPg = .ok dX:=by kernel_rfl
theorem aLl:kX Try.prog aPc = .ok dX:=by kernel_rfl
theorem aQF:kX Try.prog aQt = .ok dX:=by kernel_rfl
theorem aLs:kX Try.prog aMC = .ok dX:=by kernel_rfl
end Go.Proofs.Ytdldallkeheciaa
namespace Go.Proofs.Ytdldallkeheciaa
open Go Go.RowKit Sx Wi Lk
set_option maxHeartbeats 8000000 in
set_option maxRecDepth 100000 in
theorem aRb (x0 x1 x2 x3 x4 x5 x6 x7 l0 l1 l2 l3 l4 l5:Int) (b0:0≤x0∧x0≤255) (b1:0≤x1∧x1≤8) (b2:0≤x2∧x2≤8) (b3:0≤x3∧x3≤8) (b4:(-9223372036854775808)≤x4∧x4≤9223372036854775807) (b5:0≤x5∧x5≤8) (b6:0≤x6∧x6≤8) (b7:0≤x7∧x7≤70000):fX Try.prog G GB 40 aRF (dM ([x0,x1,x2,x3,x4,x5,x6,x7]++[l0,l1,l2,l3,l4,l5])):=by
 refine dB (lp:=eG) (run:=aIf Try.prog) (fun _=>rfl) fits (cM (xs:=[x0,x1,x2,x3,x4,x5,x6,x7]) (ls:=[l0,l1,l2,l3,l4,l5]) (by exact⟨b0,b1,b2,b3,b4,b5,b6,b7,trivial⟩)) iJ (fun X hX hG=>aCV hX hG) (fun X hX hG fn c hf hc=>dD) rfl ?_
 refine aF fC (fun h0=>?_) (fun h0=>?_)
 rotate_left
 ·skip
  refine aH aLs ?_
  unfold fC at h0;unfold dX;simp only[bI];refine⟨rfl,?_⟩;simp only[aJ];refine⟨?_,trivial⟩;show _=B.den G _ bQ;unfold bQ;simp only[aT,eO,cD,h0,Bool.and_true,Bool.true_and,Bool.false_and,Bool.and_false,Bool.not_false,Bool.not_true,Bool.or_true,Bool.true_or,Bool.or_false,Bool.false_or]<;>(try simp only[gN,aT,cD,h0,Bool.and_true,Bool.true_and,Bool.false_and,Bool.and_false,Bool.not_false,Bool.not_true,Bool.or_true,Bool.true_or,Bool.or_false,Bool.false_or])
 refine aF fP (fun h1=>?_) (fun h1=>?_)
 rotate_left
 ·skip
  refine aH aQF ?_
  unfold fC at h0;unfold fP at h1;unfold dX;simp only[bI];refine⟨rfl,?_⟩;simp only[aJ];refine⟨?_,trivial⟩;show _=B.den G _ bQ;unfold bQ;simp only[aT,eO,cD,h0,h1,Bool.and_true,Bool.true_and,Bool.false_and,Bool.and_false,Bool.not_false,Bool.not_true,Bool.or_true,Bool.true_or,Bool.or_false,Bool.false_or]<;>(try simp only[gN,aT,cD,h0,h1,Bool.and_true,Bool.true_and,Bool.false_and,Bool.and_false,Bool.not_false,Bool.not_true,Bool.or_true,Bool.true_or,Bool.or_false,Bool.false_or])
 refine aF fV (fun h2=>?_) (fun h2=>?_)
 rotate_left
 ·skip
  refine aH aLl ?_
  unfold fC at h0;unfold fP at h1;unfold fV at h2;unfold dX;simp only[bI];refine⟨rfl,?_⟩;simp only[aJ];refine⟨?_,trivial⟩;show _=B.den G _ bQ;unfold bQ;simp only[aT,eO,cD,h0,h1,h2,Bool.and_true,Bool.true_and,Bool.false_and,Bool.and_false,Bool.not_false,Bool.not_true,Bool.or_true,Bool.true_or,Bool.or_false,Bool.false_or]<;>(try simp only[gN,aT,cD,h0,h1,h2,Bool.and_true,Bool.true_and,Bool.false_and,Bool.and_false,Bool.not_false,Bool.not_true,Bool.or_true,Bool.true_or,Bool.or_false,Bool.false_or])
 refine aF gR (fun h3=>?_) (fun h3=>?_)
 ·skip
  refine aH aRg ?_
  unfold fC at h0;unfold fP at h1;unfold fV at h2;unfold gR at h3;unfold dX;simp only[bI];refine⟨rfl,?_⟩;simp only[aJ];refine⟨?_,trivial⟩;show _=B.den G _ bQ;unfold bQ;simp only[aT,eO,cD,h0,h1,h2,h3,Bool.and_true,Bool.true_and,Bool.false_and,Bool.and_false,Bool.not_false,Bool.not_true,Bool.or_true,Bool.true_or,Bool.or_false,Bool.false_or]<;>(try simp only[gN,aT,cD,h0,h1,h2,h3,Bool.and_true,Bool.true_and,Bool.false_and,Bool.and_false,Bool.not_false,Bool.not_true,Bool.or_true,Bool.true_or,Bool.or_false,Bool.false_or])
 refine aF iC (fun h4=>?_) (fun h4=>?_)
 rotate_left
 ·skip
  refine aH aOX ?_
  unfold fC at h0;unfold fP at h1;unfold fV at h2;unfold gR at h3;unfold iC at h4;unfold dX;simp only[bI];refine⟨rfl,?_⟩;simp only[aJ];refine⟨?_,trivial⟩;show _=B.den G _ bQ;unfold bQ;simp only[aT,eO,cD,h0,h1,h2,h3,h4,Bool.and_true,Bool.true_and,Bool.false_and,Bool.and_false,Bool.not_false,Bool.not_true,Bool.or_true,Bool.true_or,Bool.or_false,Bool.false_or]<;>(try simp only[gN,aT,cD,h0,h1,h2,h3,h4,Bool.and_true,Bool.true_and,Bool.false_and,Bool.and_false,Bool.not_false,Bool.not_true,Bool.or_true,Bool.true_or,Bool.or_false,Bool.false_or])
 refine aF iX (fun h5=>?_) (fun h5=>?_)
 rotate_left
 ·skip
  refine aH aNr ?_
  unfold fC at h0;unfold fP at h1;unfold fV at h2;unfold gR at h3;unfold iC at h4;unfold iX at h5;unfold dX;simp only[bI];refine⟨rfl,?_⟩;simp only[aJ];refine⟨?_,trivial⟩;show _=B.den G _ bQ;unfold bQ;simp only[aT,eO,cD,h0,h1,h2,h3,h4,h5,Bool.and_true,Bool.true_and,Bool.false_and,Bool.and_false,Bool.not_false,Bool.not_true,Bool.or_true,Bool.true_or,Bool.or_false,Bool.false_or]<;>(try simp only[gN,aT,cD,h0,h1,h2,h3,h4,h5,Bool.and_true,Bool.true_and,Bool.false_and,Bool.and_false,Bool.not_false,Bool.not_true,Bool.or_true,Bool.true_or,Bool.or_false,Bool.false_or])
 refine aF kF (fun h6=>?_) (fun h6=>?_)
 ·skip
  refine aH aRy ?_
  unfold fC at h0;unfold fP at h1;unfold fV at h2;unfold gR at h3;unfold iC at h4;unfold iX at h5;unfold kF at h6;unfold dX;simp only[bI];refine⟨rfl,?_⟩;simp only[aJ];refine⟨?_,trivial⟩;show _=B.den G _ bQ;unfold bQ;simp only[aT,eO,cD,h0,h1,h2,h3,h4,h5,h6,Bool.and_true,Bool.true_and,Bool.false_and,Bool.and_false,Bool.not_false,Bool.not_true,Bool.or_true,Bool.true_or,Bool.or_false,Bool.false_or]<;>(try simp only[gN,aT,cD,h0,h1,h2,h3,h4,h5,h6,Bool.and_true,Bool.true_and,Bool.false_and,Bool.and_false,Bool.not_false,Bool.not_true,Bool.or_true,Bool.true_or,Bool.or_false,Bool.false_or])
 refine aF lK (fun h7=>?_) (fun h7=>?_)
 rotate_left
 ·skip
  refine aH aQl ?_
  unfold fC at h0;unfold fP at h1;unfold fV at h2;unfold gR at h3;unfold iC at h4;unfold iX at h5;unfold kF at h6;unfold lK at h7;unfold dX;simp only[bI];refine⟨rfl,?_⟩;simp only[aJ];refine⟨?_,trivial⟩;show _=B.den G _ bQ;unfold bQ;simp only[aT,eO,cD,h0,h1,h2,h3,h4,h5,h6,h7,Bool.and_true,Bool.true_and,Bool.false_and,Bool.and_false,Bool.not_false,Bool.not_true,Bool.or_true,Bool.true_or,Bool.or_false,Bool.false_or]<;>(try simp only[gN,aT,cD,h0,h1,h2,h3,h4,h5,h6,h7,Bool.and_true,Bool.true_and,Bool.false_and,Bool.and_false,Bool.not_false,Bool.not_true,Bool.or_true,Bool.true_or,Bool.or_false,Bool.false_or])
 refine aF mG (fun h8=>?_) (fun h8=>?_)
 ·skip
  refine aH aLJ ?_
  unfold fC at h0;unfold fP at h1;unfold fV at h2;unfold gR at h3;unfold iC at h4;unfold iX at h5;unfold kF at h6;unfold lK at h7;unfold mG at h8;unfold dX;simp only[bI];refine⟨rfl,?_⟩;simp only[aJ];refine⟨?_,trivial⟩;show _=B.den G _ bQ;unfold bQ;simp only[aT,eO,cD,h0,h1,h2,h3,h4,h5,h6,h7,h8,Bool.and_true,Bool.true_and,Bool.false_and,Bool.and_false,Bool.not_false,Bool.not_true,Bool.or_true,Bool.true_or,Bool.or_false,Bool.false_or]<;>(try simp only[gN,aT,cD,h0,h1,h2,h3,h4,h5,h6,h7,h8,Bool.and_true,Bool.true_and,Bool.false_and,Bool.and_false,Bool.not_false,Bool.not_true,Bool.or_true,Bool.true_or,Bool.or_false,Bool.false_or])
 refine aF oD (fun h9=>?_) (fun h9=>?_)
 rotate_left
 ·skip
  refine aH aND ?_
  unfold fC at h0;unfold fP at h1;unfold fV at h2;unfold gR at h3;unfold iC at h4;unfold iX at h5;unfold kF at h6;unfold lK at h7;unfold mG at h8;unfold oD at h9;unfold dX;simp only[bI];refine⟨rfl,?_⟩;simp only[aJ];refine⟨?_,trivial⟩;show _=B.den G _ bQ;unfold bQ;simp only[aT,eO,cD,h0,h1,h2,h3,h4,h5,h6,h7,h8,h9,Bool.and_true,Bool.true_and,Bool.false_and,Bool.and_false,Bool.not_false,Bool.not_true,Bool.or_true,Bool.true_or,Bool.or_false,Bool.false_or]<;>(try simp only[gN,aT,cD,h0,h1,h2,h3,h4,h5,h6,h7,h8,h9,Bool.and_true,Bool.true_and,Bool.false_and,Bool.and_false,Bool.not_false,Bool.not_true,Bool.or_true,Bool.true_or,Bool.or_false,Bool.false_or])
 refine aF lY (fun h10=>?_) (fun h10=>?_)
 ·skip
  refine aF jK (fun h11=>?_) (fun h11=>?_)
  ·skip
   refine aH aQr ?_
   unfold fC at h0;unfold fP at h1;unfold fV at h2;unfold gR at h3;unfold iC at h4;unfold iX at h5;unfold kF at h6;unfold lK at h7;unfold mG at h8;unfold oD at h9;unfold lY at h10;unfold jK at h11;unfold aBd;simp only[bI];refine⟨rfl,?_⟩;simp only[aJ];refine⟨?_,trivial⟩;show _=B.den G _ bQ;unfold bQ;simp only[aT,eO,cD,h0,h1,h2,h3,h4,h5,h6,h7,h8,h9,h10,h11,Bool.and_true,Bool.true_and,Bool.false_and,Bool.and_false,Bool.not_false,Bool.not_true,Bool.or_true,Bool.true_or,Bool.or_false,Bool.false_or]<;>(try simp only[gN,aT,cD,h0,h1,h2,h3,h4,h5,h6,h7,h8,h9,h10,h11,Bool.and_true,Bool.true_and,Bool.false_and,Bool.and_false,Bool.not_false,Bool.not_true,Bool.or_true,Bool.true_or,Bool.or_false,Bool.false_or])
  refine aH aMa ?_
  unfold fC at h0;unfold fP at h1;unfold fV at h2;unfold gR at h3;unfold iC at h4;unfold iX at h5;unfold kF at h6;unfold lK at h7;unfold mG at h8;unfold oD at h9;unfold lY at h10;unfold jK at h11;unfold aBb;simp only[bI];refine⟨rfl,?_⟩;simp only[aJ];refine⟨?_,trivial⟩;show _=B.den G _ bQ;unfold bQ;simp only[aT,eO,cD,h0,h1,h2,h3,h4,h5,h6,h7,h8,h9,h10,h11,Bool.and_true,Bool.true_and,Bool.false_and,Bool.and_false,Bool.not_false,Bool.not_true,Bool.or_true,Bool.true_or,Bool.or_false,Bool.false_or]<;>(try simp only[gN,aT,cD,h0,h1,h2,h3,h4,h5,h6,h7,h8,h9,h10,h11,Bool.and_true,Bool.true_and,Bool.false_and,Bool.and_false,Bool.not_false,Bool.not_true,Bool.or_true,Bool.true_or,Bool.or_false,Bool.false_or])
 refine aF qF (fun h11=>?_) (fun h11=>?_)
 rotate_left
 ·skip
  refine aH aP4 ?_
  unfold fC at h0;unfold fP at h1;unfold fV at h2;unfold gR at h3;unfold iC at h4;unfold iX at h5;unfold kF at h6;unfold lK at h7;unfold mG at h8;unfold oD at h9;unfold lY at h10;unfold qF at h11;unfold dX;simp only[bI];refine⟨rfl,?_⟩;simp only[aJ];refine⟨?_,trivial⟩;show _=B.den G _ bQ;unfold bQ;simp only[aT,eO,cD,h0,h1,h2,h3,h4,h5,h6,h7,h8,h9,h10,h11,Bool.and_true,Bool.true_and,Bool.false_and,Bool.and_false,Bool.not_false,Bool.not_true,Bool.or_true,Bool.true_or,Bool.or_false,Bool.false_or]<;>(try simp only[gN,aT,cD,h0,h1,h2,h3,h4,h5,h6,h7,h8,h9,h10,h11,Bool.and_true,Bool.true_and,Bool.false_and,Bool.and_false,Bool.not_false,Bool.not_true,Bool.or_true,Bool.true_or,Bool.or_false,Bool.false_or])
 refine aF jK (fun h12=>?_) (fun h12=>?_)
 ·skip
  refine aH aQi ?_
  unfold fC at h0;unfold fP at h1;unfold fV at h2;unfold gR at h3;unfold iC at h4;unfold iX at h5;unfold kF at h6;unfold lK at h7;unfold mG at h8;unfold oD at h9;unfold lY at h10;unfold qF at h11;unfold jK at h12;unfold aBd;simp only[bI];refine⟨rfl,?_⟩;simp only[aJ];refine⟨?_,trivial⟩;show _=B.den G _ bQ;unfold bQ;simp only[aT,eO,cD,h0,h1,h2,h3,h4,h5,h6,h7,h8,h9,h10,h11,h12,Bool.and_true,Bool.true_and,Bool.false_and,Bool.and_false,Bool.not_false,Bool.not_true,Bool.or_true,Bool.true_or,Bool.or_false,Bool.false_or]<;>(try simp only[gN,aT,cD,h0,h1,h2,h3,h4,h5,h6,h7,h8,h9,h10,h11,h12,Bool.and_true,Bool.true_and,Bool.false_and,Bool.and_false,Bool.not_false,Bool.not_true,Bool.or_true,Bool.true_or,Bool.or_false,Bool.false_or])
 refine aH aNV ?_
 unfold fC at h0;unfold fP at h1;unfold fV at h2;unfold gR at h3;unfold iC at h4;unfold iX at h5;unfold kF at h6;unfold lK at h7;unfold mG at h8;unfold oD at h9;unfold lY at h10;unfold qF at h11;unfold jK at h12;unfold aBb;simp only[bI];refine⟨rfl,?_⟩;simp only[aJ];refine⟨?_,trivial⟩;show _=B.den G _ bQ;unfold bQ;simp only[aT,eO,cD,h0,h1,h2,h3,h4,h5,h6,h7,h8,h9,h10,h11,h12,Bool.and_true,Bool.true_and,Bool.false_and,Bool.and_false,Bool.not_false,Bool.not_true,Bool.or_true,Bool.true_or,Bool.or_false,Bool.false_or]<;>(try simp only[gN,aT,cD,h0,h1,h2,h3,h4,h5,h6,h7,h8,h9,h10,h11,h12,Bool.and_true,Bool.true_and,Bool.false_and,Bool.and_false,Bool.not_false,Bool.not_true,Bool.or_true,Bool.true_or,Bool.or_false,Bool.false_or])
def aDc:Ctx→List SV→aM→Res (SV × aM):=eA GB [(0,255),(0,8),(0,8),(0,8),((-9223372036854775808),9223372036854775807),(0,8),(0,8),(0,70000)] 6 (.lit true) aRF
theorem aTS {X:Ctx} {ρ:Nat→Int} (hX:X.Ok ρ) (hG:X.G=G):eT Try.prog X ρ GB 40 aDc:=by
 obtain⟨XG,XI,XV,XF⟩:=X
 simp only at hG
 subst hG
 refine cU hX ?_
 intro xs ls hw hl hp
 obtain⟨x0,y0,e0,b0,h0⟩:=aY hw
 obtain⟨x1,y1,e1,b1,h1⟩:=aY h0
 obtain⟨x2,y2,e2,b2,h2⟩:=aY h1
 obtain⟨x3,y3,e3,b3,h3⟩:=aY h2
 obtain⟨x4,y4,e4,b4,h4⟩:=aY h3
 obtain⟨x5,y5,e5,b5,h5⟩:=aY h4
 obtain⟨x6,y6,e6,b6,h6⟩:=aY h5
 obtain⟨x7,y7,e7,b7,h7⟩:=aY h6
 have e8:=kG h7
 subst e8 e7 e6 e5 e4 e3 e2 e1 e0
 obtain⟨l0,z0,q0,hl0⟩:=bL hl
 obtain⟨l1,z1,q1,hl1⟩:=bL hl0
 obtain⟨l2,z2,q2,hl2⟩:=bL hl1
 obtain⟨l3,z3,q3,hl3⟩:=bL hl2
 obtain⟨l4,z4,q4,hl4⟩:=bL hl3
 obtain⟨l5,z5,q5,hl5⟩:=bL hl4
 have q6:=List.length_eq_zero_iff.1 hl5
 subst q6 q5 q4 q3 q2 q1 q0
 exact aRb x0 x1 x2 x3 x4 x5 x6 x7 l0 l1 l2 l3 l4 l5 b0 b1 b2 b3 b4 b5 b6 b7
def aAP:Ctx→List SV→aM→Res (SV × aM):=rZ aDc
theorem aSZ {X:Ctx} {ρ:Nat→Int} (hX:X.Ok ρ) (hG:X.G=G):eT Try.prog X ρ GB 40 aAP:=mY hX (aTS hX hG)
def aJT:bA:=gF 40 aAP aIl
theorem aDj {X:Ctx} {ρ:Nat→Int} (hX:X.Ok ρ) (hG:X.G=G):fL Try.prog X ρ GB aJT:=eF (aSZ hX hG) (aCV hX hG)
def dK:B:=(.and bQ (.and (.cmp .le (.app 63 (.cons (.var 2) (.cons (.var 4) (.cons (.var 10) (.cons (.var 3) .nil))))) (.lit 524288)) (.cmp .le (.app 63 (.cons (.var 2) (.cons (.var 4) (.cons (.var 10) (.cons (.var 3) .nil))))) (.op .mul (.lit 8) (.var 7)))))
def aRT:FunS:=⟨[(.agg [(.int .u8 (.var 0)),(.own 0 (.var 1) none),(.own 1 (.var 2) none),(.own 2 (.var 3) none),(.int .i64 (.var 4)),(.own 3 (.var 5) none),(.own 4 (.var 6) none),(.own 5 (.var 7) none),.any,.any,.any,.any,.any,.any])],[some ([.vec [.int .i32,.int .i32] (.var 8) (.var 1) true],aG),some ([.vec [.int .i32,.int .i32] (.var 9) (.var 2) true],aG),some ([.vec [.int .i64] (.var 10) (.var 3) true],aG),some ([.vec [.int .i32,.int .i32] (.var 11) (.var 5) true],aG),some ([.vec [.int .i32,.int .i32] (.var 12) (.var 6) true],aG),some ([.vec [.int .u8] (.var 13) (.var 7) true],aG)],dK,(.int .i64 (.lit 0)),[some ([.vec [.int .i32,.int .i32] (.var 8) (.var 1) true],aG),some ([.vec [.int .i32,.int .i32] (.var 9) (.var 2) true],aG),some ([.vec [.int .i64] (.var 10) (.var 3) true],aG),some ([.vec [.int .i32,.int .i32] (.var 11) (.var 5) true],aG),some ([.vec [.int .i32,.int .i32] (.var 12) (.var 6) true],aG),some ([.vec [.int .u8] (.var 13) (.var 7) true],aG)],(.int .i64 (.app 72 (.cons (.var 0) (.cons (.var 1) (.cons (.var 2) (.cons (.var 3) (.cons (.var 4) (.cons (.var 5) (.cons (.var 6) (.cons (.var 7) (.cons (.var 8) (.cons (.var 9) (.cons (.var 10) .nil))))))))))))),[some ([.vec [.int .i32,.int .i32] (.var 8) (.var 1) true],aG),some ([.vec [.int .i32,.int .i32] (.var 9) (.var 2) true],aG),some ([.vec [.int .i64] (.var 10) (.var 3) true],aG),some ([.vec [.int .i32,.int .i32] (.var 11) (.var 5) true],aG),some ([.vec [.int .i32,.int .i32] (.var 12) (.var 6) true],aG),some ([.vec [.int .u8] (.var 13) (.var 7) true],aG)]⟩
def aH9 (P:Program) (fs:List B):Res SV:=cO G GI [(0,255),(0,8),(0,8),(0,8),((-9223372036854775808),9223372036854775807),(0,8),(0,8),(0,70000)] fs fun X=>gQ P X GB aJT eG 4000 13 aRT
end Go.Proofs.Ytdldallkeheciaa
set_option maxRecDepth 100000
namespace Go.Proofs.Ytdldallkeheciaa
open Go Go.RowKit Sx Wi Lk
def eX (P:Program) (fs:List B):Res SV:=aH9 P fs
def aH0:List B:=[]
def bW:B:=(id bQ)
def aRl:List B:=aI bW++aH0
def cB:B:=(.cmp .le (.lit 1) (.var 4))
def aRp:List B:=aI cB++aRl
def cE:B:=(.cmp .le (.var 4) (.lit 16))
def aSX:List B:=aI cE++aRp
def cG:B:=(.cmp .le (.lit 1) (.var 3))
def aS6:List B:=aI cG++aSX
def cI:B:=(.cmp .le (.var 3) (.lit 4))
def aKe:List B:=aI cI++aS6
def cH:B:=(.cmp .lt (.lit 524288) (.wrap .i64 (.op .mul (.op .mul (.var 2) (.var 4)) (.app 83 (.cons (.var 10) (.cons (.lit 0) (.cons (.lit 0) .nil)))))))
def aRU:List B:=aI cH++aKe
def kD:B:=(.cmp .le (.op .add (.wrap .i64 (.op .mul (.op .mul (.var 2) (.var 4)) (.app 83 (.cons (.var 10) (.cons (.lit 0) (.cons (.lit 0) .nil)))))) (.lit 7)) (.lit 9223372036854775807))
def aJG:List B:=aI kD++aRU
def jX:B:=(.cmp .lt (.lit 65536) (.op .quo (.op .add (.wrap .i64 (.op .mul (.op .mul (.var 2) (.var 4)) (.app 83 (.cons (.var 10) (.cons (.lit 0) (.cons (.lit 0) .nil)))))) (.lit 7)) (.lit 8)))
def aSV:List B:=aI jX++aJG
def aJB:List B:=aI (B.neg jX)++aJG
def mJ:B:=(.cmp .lt (.var 7) (.op .quo (.op .add (.wrap .i64 (.op .mul (.op .mul (.var 2) (.var 4)) (.app 83 (.cons (.var 10) (.cons (.lit 0) (.cons (.lit 0) .nil)))))) (.lit 7)) (.lit 8)))
def aOc:List B:=aI mJ++aJB
def aPW:List B:=aI (B.neg mJ)++aJB
def aFA:List B:=aI (B.neg cH)++aKe
def cP:B:=(.cmp .lt (.lit 1) (.var 3))
def aFu:List B:=aI cP++aFA
def cK:B:=(.cmp .lt (.lit 524288) (.wrap .i64 (.op .mul (.wrap .i64 (.op .mul (.op .mul (.var 2) (.var 4)) (.app 83 (.cons (.var 10) (.cons (.lit 0) (.cons (.lit 0) .nil)))))) (.app 83 (.cons (.var 10) (.cons (.lit 1) (.cons (.lit 0) .nil)))))))
def aOu:List B:=aI cK++aFu
def gH:B:=(.cmp .le (.op .add (.wrap .i64 (.op .mul (.wrap .i64 (.op .mul (.op .mul (.var 2) (.var 4)) (.app 83 (.cons (.var 10) (.cons (.lit 0) (.cons (.lit 0) .nil)))))) (.app 83 (.cons (.var 10) (.cons (.lit 1) (.cons (.lit 0) .nil)))))) (.lit 7)) (.lit 9223372036854775807))
def aGo:List B:=aI gH++aOu
def gD:B:=(.cmp .lt (.lit 65536) (.op .quo (.op .add (.wrap .i64 (.op .mul (.wrap .i64 (.op .mul (.op .mul (.var 2) (.var 4)) (.app 83 (.cons (.var 10) (.cons (.lit 0) (.cons (.lit 0) .nil)))))) (.app 83 (.cons (.var 10) (.cons (.lit 1) (.cons (.lit 0) .nil)))))) (.lit 7)) (.lit 8)))
def aNB:List B:=aI gD++aGo
def aGk:List B:=aI (B.neg gD)++aGo
def jJ:B:=(.cmp .lt (.var 7) (.op .quo (.op .add (.wrap .i64 (.op .mul (.wrap .i64 (.op .mul (.op .mul (.var 2) (.var 4)) (.app 83 (.cons (.var 10) (.cons (.lit 0) (.cons (.lit 0) .nil)))))) (.app 83 (.cons (.var 10) (.cons (.lit 1) (.cons (.lit 0) .nil)))))) (.lit 7)) (.lit 8)))
def aME:List B:=aI jJ++aGk
def aNi:List B:=aI (B.neg jJ)++aGk
def aEN:List B:=aI (B.neg cK)++aFu
def cR:B:=(.cmp .lt (.lit 2) (.var 3))
def aFs:List B:=aI cR++aEN
def dO:B:=(.cmp .lt (.lit 524288) (.wrap .i64 (.op .mul (.wrap .i64 (.op .mul (.wrap .i64 (.op .mul (.op .mul (.var 2) (.var 4)) (.app 83 (.cons (.var 10) (.cons (.lit 0) (.cons (.lit 0) .nil)))))) (.app 83 (.cons (.var 10) (.cons (.lit 1) (.cons (.lit 0) .nil)))))) (.app 83 (.cons (.var 10) (.cons (.lit 2) (.cons (.lit 0) .nil)))))))
def aLE:List B:=aI dO++aFs
def gI:B:=(.cmp .le (.op .add (.wrap .i64 (.op .mul (.wrap .i64 (.op .mul (.wrap .i64 (.op .mul (.op .mul (.var 2) (.var 4)) (.app 83 (.cons (.var 10) (.cons (.lit 0) (.cons (.lit 0) .nil)))))) (.app 83 (.cons (.var 10) (.cons (.lit 1) (.cons (.lit 0) .nil)))))) (.app 83 (.cons (.var 10) (.cons (.lit 2) (.cons (.lit 0) .nil)))))) (.lit 7)) (.lit 9223372036854775807))
def aF7:List B:=aI gI++aLE
def gM:B:=(.cmp .lt (.lit 65536) (.op .quo (.op .add (.wrap .i64 (.op .mul (.wrap .i64 (.op .mul (.wrap .i64 (.op .mul (.op .mul (.var 2) (.var 4)) (.app 83 (.cons (.var 10) (.cons (.lit 0) (.cons (.lit 0) .nil)))))) (.app 83 (.cons (.var 10) (.cons (.lit 1) (.cons (.lit 0) .nil)))))) (.app 83 (.cons (.var 10) (.cons (.lit 2) (.cons (.lit 0) .nil)))))) (.lit 7)) (.lit 8)))
def aL4:List B:=aI gM++aF7
def aGN:List B:=aI (B.neg gM)++aF7
def jN:B:=(.cmp .lt (.var 7) (.op .quo (.op .add (.wrap .i64 (.op .mul (.wrap .i64 (.op .mul (.wrap .i64 (.op .mul (.op .mul (.var 2) (.var 4)) (.app 83 (.cons (.var 10) (.cons (.lit 0) (.cons (.lit 0) .nil)))))) (.app 83 (.cons (.var 10) (.cons (.lit 1) (.cons (.lit 0) .nil)))))) (.app 83 (.cons (.var 10) (.cons (.lit 2) (.cons (.lit 0) .nil)))))) (.lit 7)) (.lit 8)))
def aPY:List B:=aI jN++aGN
def aLx:List B:=aI (B.neg jN)++aGN
def aGy:List B:=aI (B.neg dO)++aFs
def eM:B:=(.cmp .lt (.lit 3) (.var 3))
def aGF:List B:=aI eM++aGy
def hZ:B:=(.cmp .lt (.lit 524288) (.wrap .i64 (.op .mul (.wrap .i64 (.op .mul (.wrap .i64 (.op .mul (.wrap .i64 (.op .mul (.op .mul (.var 2) (.var 4)) (.app 83 (.cons (.var 10) (.cons (.lit 0) (.cons (.lit 0) .nil)))))) (.app 83 (.cons (.var 10) (.cons (.lit 1) (.cons (.lit 0) .nil)))))) (.app 83 (.cons (.var 10) (.cons (.lit 2) (.cons (.lit 0) .nil)))))) (.app 83 (.cons (.var 10) (.cons (.lit 3) (.cons (.lit 0) .nil)))))))
def aM0:List B:=aI hZ++aGF
def gL:B:=(.cmp .le (.op .add (.wrap .i64 (.op .mul (.wrap .i64 (.op .mul (.wrap .i64 (.op .mul (.wrap .i64 (.op .mul (.op .mul (.var 2) (.var 4)) (.app 83 (.cons (.var 10) (.cons (.lit 0) (.cons (.lit 0) .nil)))))) (.app 83 (.cons (.var 10) (.cons (.lit 1) (.cons (.lit 0) .nil)))))) (.app 83 (.cons (.var 10) (.cons (.lit 2) (.cons (.lit 0) .nil)))))) (.app 83 (.cons (.var 10) (.cons (.lit 3) (.cons (.lit 0) .nil)))))) (.lit 7)) (.lit 9223372036854775807))
def aGH:List B:=aI gL++aM0
def gE:B:=(.cmp .lt (.lit 65536) (.op .quo (.op .add (.wrap .i64 (.op .mul (.wrap .i64 (.op .mul (.wrap .i64 (.op .mul (.wrap .i64 (.op .mul (.op .mul (.var 2) (.var 4)) (.app 83 (.cons (.var 10) (.cons (.lit 0) (.cons (.lit 0) .nil)))))) (.app 83 (.cons (.var 10) (.cons (.lit 1) (.cons (.lit 0) .nil)))))) (.app 83 (.cons (.var 10) (.cons (.lit 2) (.cons (.lit 0) .nil)))))) (.app 83 (.cons (.var 10) (.cons (.lit 3) (.cons (.lit 0) .nil)))))) (.lit 7)) (.lit 8)))
def aNK:List B:=aI gE++aGH
def aFE:List B:=aI (B.neg gE)++aGH
def jL:B:=(.cmp .lt (.var 7) (.op .quo (.op .add (.wrap .i64 (.op .mul (.wrap .i64 (.op .mul (.wrap .i64 (.op .mul (.wrap .i64 (.op .mul (.op .mul (.var 2) (.var 4)) (.app 83 (.cons (.var 10) (.cons (.lit 0) (.cons (.lit 0) .nil)))))) (.app 83 (.cons (.var 10) (.cons (.lit 1) (.cons (.lit 0) .nil)))))) (.app 83 (.cons (.var 10) (.cons (.lit 2) (.cons (.lit 0) .nil)))))) (.app 83 (.cons (.var 10) (.cons (.lit 3) (.cons (.lit 0) .nil)))))) (.lit 7)) (.lit 8)))
def aMO:List B:=aI jL++aFE
def aPF:List B:=aI (B.neg jL)++aFE
def aQv:List B:=aI (B.neg hZ)++aGF
def aGn:List B:=aI gL++aQv
def aPZ:List B:=aI gE++aGn
def aFC:List B:=aI (B.neg gE)++aGn
def aN8:List B:=aI jL++aFC
def aMh:List B:=aI (B.neg jL)++aFC
def aOg:List B:=aI (B.neg eM)++aGy
def aFI:List B:=aI gI++aOg
def aNL:List B:=aI gM++aFI
def aFr:List B:=aI (B.neg gM)++aFI
def aLp:List B:=aI jN++aFr
def aMJ:List B:=aI (B.neg jN)++aFr
def aQx:List B:=aI (B.neg cR)++aEN
def aFV:List B:=aI gH++aQx
def aQc:List B:=aI gD++aFV
def aGi:List B:=aI (B.neg gD)++aFV
def aQh:List B:=aI jJ++aGi
def aN7:List B:=aI (B.neg jJ)++aGi
def aOB:List B:=aI (B.neg cP)++aFA
def aET:List B:=aI kD++aOB
def aPR:List B:=aI jX++aET
def aFN:List B:=aI (B.neg jX)++aET
def aPO:List B:=aI mJ++aFN
def aPz:List B:=aI (B.neg mJ)++aFN
def aM5:List B:=aI (B.neg bW)++aH0
end Go.Proofs.Ytdldallkeheciaa
set_option maxRecDepth 100000
namespace Go.Proofs.Ytdldallkeheciaa
open Go Go.RowKit Sx Wi Lk
theorem aRh:eX Try.prog aSV = .ok (.tuple [(.agg [(.int .i64 (.lit 3)),(.int .i64 (.app 72 (.cons (.var 0) (.cons (.var 1) (.cons (.var 2) (.cons (.var 3) (.cons (.var 4) (.cons (.var 5) (.cons (.var 6) (.cons (.var 7) (.cons (.var 8) (.cons (.var 9) (.cons (.var 10) .nil)))))))))))))]),(.bool (.lit false))]):=by kernel_rfl
theorem aOi:eX Try.prog aOc = .ok (.tuple [(.agg [(.int .i64 (.lit 5)),(.int .i64 (.app 72 (.cons (.var 0) (.cons (.var 1) (.cons (.var 2) (.cons (.var 3) (.cons (.var 4) (.cons (.var 5) (.cons (.var 6) (.cons (.var 7) (.cons (.var 8) (.cons (.var 9) (.cons (.var 10) .nil)))))))))))))]),(.bool (.lit false))]):=by kernel_rfl
theorem aPE:eX Try.prog aPW = .ok (.tuple [(.agg []),(.bool (.lit true))]):=by kernel_rfl
theorem aPQ:eX Try.prog aNB = .ok (.tuple [(.agg [(.int .i64 (.lit 3)),(.int .i64 (.app 72 (.cons (.var 0) (.cons (.var 1) (.cons (.var 2) (.cons (.var 3) (.cons (.var 4) (.cons (.var 5) (.cons (.var 6) (.cons (.var 7) (.cons (.var 8) (.cons (.var 9) (.cons (.var 10) .nil)))))))))))))]),(.bool (.lit false))]):=by kernel_rfl
theorem aL8:eX Try.prog aME = .ok (.tuple [(.agg [(.int .i64 (.lit 5)),(.int .i64 (.app 72 (.cons (.var 0) (.cons (.var 1) (.cons (.var 2) (.cons (.var 3) (.cons (.var 4) (.cons (.var 5) (.cons (.var 6) (.cons (.var 7) (.cons (.var 8) (.cons (.var 9) (.cons (.var 10) .nil)))))))))))))]),(.bool (.lit false))]):=by kernel_rfl
theorem aOC:eX Try.prog aNi = .ok (.tuple [(.agg []),(.bool (.lit true))]):=by kernel_rfl
theorem aP6:eX Try.prog aL4 = .ok (.tuple [(.agg [(.int .i64 (.lit 3)),(.int .i64 (.app 72 (.cons (.var 0) (.cons (.var 1) (.cons (.var 2) (.cons (.var 3) (.cons (.var 4) (.cons (.var 5) (.cons (.var 6) (.cons (.var 7) (.cons (.var 8) (.cons (.var 9) (.cons (.var 10) .nil)))))))))))))]),(.bool (.lit false))]):=by kernel_rfl
theorem aMX:eX Try.prog aPY = .ok (.tuple [(.agg [(.int .i64 (.lit 5)),(.int .i64 (.app 72 (.cons (.var 0) (.cons (.var 1) (.cons (.var 2) (.cons (.var 3) (.cons (.var 4) (.cons (.var 5) (.cons (.var 6) (.cons (.var 7) (.cons (.var 8) (.cons (.var 9) (.cons (.var 10) .nil)))))))))))))]),(.bool (.lit false))]):=by kernel_rfl
theorem aQH:eX Try.prog aLx = .ok (.tuple [(.agg []),(.bool (.lit true))]):=by kernel_rfl
theorem aNq:eX Try.prog aNK = .ok (.tuple [(.agg [(.int .i64 (.lit 3)),(.int .i64 (.app 72 (.cons (.var 0) (.cons (.var 1) (.cons (.var 2) (.cons (.var 3) (.cons (.var 4) (.cons (.var 5) (.cons (.var 6) (.cons (.var 7) (.cons (.var 8) (.cons (.var 9) (.cons (.var 10) .nil)))))))))))))]),(.bool (.lit false))]):=by kernel_rfl
theorem aO6:eX Try.prog aMO = .ok (.tuple [(.agg [(.int .i64 (.lit 5)),(.int .i64 (.app 72 (.cons (.var 0) (.cons (.var 1) (.cons (.var 2) (.cons (.var 3) (.cons (.var 4) (.cons (.var 5) (.cons (.var 6) (.cons (.var 7) (.cons (.var 8) (.cons (.var 9) (.cons (.var 10) .nil)))))))))))))]),(.bool (.lit false))]):=by kernel_rfl
theorem aNM:eX Try.prog aPF = .ok (.tuple [(.agg []),(.bool (.lit true))]):=by kernel_rfl
theorem aOe:eX Try.prog aPZ = .ok (.tuple [(.agg [(.int .i64 (.lit 3)),(.int .i64 (.app 72 (.cons (.var 0) (.cons (.var 1) (.cons (.var 2) (.cons (.var 3) (.cons (.var 4) (.cons (.var 5) (.cons (.var 6) (.cons (.var 7) (.cons (.var 8) (.cons (.var 9) (.cons (.var 10) .nil)))))))))))))]),(.bool (.lit false))]):=by kernel_rfl
theorem aLY:eX Try.prog aN8 = .ok (.tuple [(.agg [(.int .i64 (.lit 5)),(.int .i64 (.app 72 (.cons (.var 0) (.cons (.var 1) (.cons (.var 2) (.cons (.var 3) (.cons (.var 4) (.cons (.var 5) (.cons (.var 6) (.cons (.var 7) (.cons (.var 8) (.cons (.var 9) (.cons (.var 10) .nil)))))))))))))]),(.bool (.lit false))]):=by kernel_rfl
theorem aNy:eX Try.prog aMh = .ok (.tuple [(.agg []),(.bool (.lit true))]):=by kernel_rfl
theorem aPH:eX Try.prog aNL = .ok (.tuple [(.agg [(.int .i64 (.lit 3)),(.int .i64 (.app 72 (.cons (.var 0) (.cons (.var 1) (.cons (.var 2) (.cons (.var 3) (.cons (.var 4) (.cons (.var 5) (.cons (.var 6) (.cons (.var 7) (.cons (.var 8) (.cons (.var 9) (.cons (.var 10) .nil)))))))))))))]),(.bool (.lit false))]):=by kernel_rfl
theorem aQm:eX Try.prog aLp = .ok (.tuple [(.agg [(.int .i64 (.lit 5)),(.int .i64 (.app 72 (.cons (.var 0) (.cons (.var 1) (.cons (.var 2) (.cons (.var 3) (.cons (.var 4) (.cons (.var 5) (.cons (.var 6) (.cons (.var 7) (.cons (.var 8) (.cons (.var 9) (.cons (.var 10) .nil)))))))))))))]),(.bool (.lit false))]):=by kernel_rfl
theorem aN0:eX Try.prog aMJ = .ok (.tuple [(.agg []),(.bool (.lit true))]):=by kernel_rfl
theorem aP7:eX Try.prog aQc = .ok (.tuple [(.agg [(.int .i64 (.lit 3)),(.int .i64 (.app 72 (.cons (.var 0) (.cons (.var 1) (.cons (.var 2) (.cons (.var 3) (.cons (.var 4) (.cons (.var 5) (.cons (.var 6) (.cons (.var 7) (.cons (.var 8) (.cons (.var 9) (.cons (.var 10) .nil)))))))))))))]),(.bool (.lit false))]):=by kernel_rfl
theorem aOP:eX Try.prog aQh = .ok (.tuple [(.agg [(.int .i64 (.lit 5)),(.int .i64 (.app 72 (.cons (.var 0) (.cons (.var 1) (.cons (.var 2) (.cons (.var 3) (.cons (.var 4) (.cons (.var 5) (.cons (.var 6) (.cons (.var 7) (.cons (.var 8) (.cons (.var 9) (.cons (.var 10) .nil)))))))))))))]),(.bool (.lit false))]):=by kernel_rfl
end Go.Proofs.Ytdldallkeheciaa
set_option maxRecDepth 100000
namespace Go.Proofs.Ytdldallkeheciaa
open Go Go.RowKit Sx Wi Lk
theorem aQC:eX Try.prog aN7 = .ok (.tuple [(.agg []),(.bool (.lit true))]):=by kernel_rfl
theorem aP0:eX Try.prog aPR = .ok (.tuple [(.agg [(.int .i64 (.lit 3)),(.int .i64 (.app 72 (.cons (.var 0) (.cons (.var 1) (.cons (.var 2) (.cons (.var 3) (.cons (.var 4) (.cons (.var 5) (.cons (.var 6) (.cons (.var 7) (.cons (.var 8) (.cons (.var 9) (.cons (.var 10) .nil)))))))))))))]),(.bool (.lit false))]):=by kernel_rfl
theorem aOh:eX Try.prog aPO = .ok (.tuple [(.agg [(.int .i64 (.lit 5)),(.int .i64 (.app 72 (.cons (.var 0) (.cons (.var 1) (.cons (.var 2) (.cons (.var 3) (.cons (.var 4) (.cons (.var 5) (.cons (.var 6) (.cons (.var 7) (.cons (.var 8) (.cons (.var 9) (.cons (.var 10) .nil)))))))))))))]),(.bool (.lit false))]):=by kernel_rfl
theorem aN1:eX Try.prog aPz = .ok (.tuple [(.agg []),(.bool (.lit true))]):=by kernel_rfl
theorem aOH:eX Try.prog aM5 = .ok (.tuple [(.agg [(.int .i64 (.lit 4)),(.int .i64 (.app 72 (.cons (.var 0) (.cons (.var 1) (.cons (.var 2) (.cons (.var 3) (.cons (.var 4) (.cons (.var 5) (.cons (.var 6) (.cons (.var 7) (.cons (.var 8) (.cons (.var 9) (.cons (.var 10) .nil)))))))))))))]),(.bool (.lit false))]):=by kernel_rfl
end Go.Proofs.Ytdldallkeheciaa
