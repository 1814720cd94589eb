/- What is proved: the run of a function over its ways,and what is known on each. No condition. -/
import Derived.Test.YtdldallkeheciaaQa1
set_option linter.unusedSimpArgs false
set_option linter.unusedVariables false
set_option maxRecDepth 100000
namespace Go.Proofs.Ytdldallkeheciaa
open Go Go.RowKit Sx Wi Lk
def eU (P:Program) (fs:List B):Res SV:=aHX P fs
def aKn:List B:=[]
def cX:B:=(.cmp .lt (.lit 0) (.var 0))
def aIx:List B:=aI cX++aKn
def dE:B:=(.cmp .lt (.app 83 (.cons (.var 1) (.cons (.lit 0) (.cons (.lit 0) .nil)))) (.lit 1))
def aRE:List B:=aI dE++aIx
def aBg:SV:=(.tuple [(.agg [(.bool (.cmp .le (.lit 0) (.lit 0))),(.bool (.or (.and (.cmp .lt (.lit 0) (.var 0)) (.or (.cmp .lt (.app 83 (.cons (.var 1) (.cons (.lit 0) (.cons (.lit 0) .nil)))) (.lit 1)) (.cmp .lt (.lit 256) (.app 83 (.cons (.var 1) (.cons (.lit 0) (.cons (.lit 0) .nil))))))) (.or (.and (.cmp .lt (.lit 1) (.var 0)) (.or (.cmp .lt (.app 83 (.cons (.var 1) (.cons (.lit 1) (.cons (.lit 0) .nil)))) (.lit 1)) (.cmp .lt (.lit 256) (.app 83 (.cons (.var 1) (.cons (.lit 1) (.cons (.lit 0) .nil))))))) (.or (.and (.cmp .lt (.lit 2) (.var 0)) (.or (.cmp .lt (.app 83 (.cons (.var 1) (.cons (.lit 2) (.cons (.lit 0) .nil)))) (.lit 1)) (.cmp .lt (.lit 256) (.app 83 (.cons (.var 1) (.cons (.lit 2) (.cons (.lit 0) .nil))))))) (.or (.and (.cmp .lt (.lit 3) (.var 0)) (.or (.cmp .lt (.app 83 (.cons (.var 1) (.cons (.lit 3) (.cons (.lit 0) .nil)))) (.lit 1)) (.cmp .lt (.lit 256) (.app 83 (.cons (.var 1) (.cons (.lit 3) (.cons (.lit 0) .nil))))))) (.or (.and (.cmp .lt (.lit 4) (.var 0)) (.or (.cmp .lt (.app 83 (.cons (.var 1) (.cons (.lit 4) (.cons (.lit 0) .nil)))) (.lit 1)) (.cmp .lt (.lit 256) (.app 83 (.cons (.var 1) (.cons (.lit 4) (.cons (.lit 0) .nil))))))) (.or (.and (.cmp .lt (.lit 5) (.var 0)) (.or (.cmp .lt (.app 83 (.cons (.var 1) (.cons (.lit 5) (.cons (.lit 0) .nil)))) (.lit 1)) (.cmp .lt (.lit 256) (.app 83 (.cons (.var 1) (.cons (.lit 5) (.cons (.lit 0) .nil))))))) (.or (.and (.cmp .lt (.lit 6) (.var 0)) (.or (.cmp .lt (.app 83 (.cons (.var 1) (.cons (.lit 6) (.cons (.lit 0) .nil)))) (.lit 1)) (.cmp .lt (.lit 256) (.app 83 (.cons (.var 1) (.cons (.lit 6) (.cons (.lit 0) .nil))))))) (.and (.cmp .lt (.lit 7) (.var 0)) (.or (.cmp .lt (.app 83 (.cons (.var 1) (.cons (.lit 7) (.cons (.lit 0) .nil)))) (.lit 1)) (.cmp .lt (.lit 256) (.app 83 (.cons (.var 1) (.cons (.lit 7) (.cons (.lit 0) .nil)))))))))))))))]),(.bool (.lit true))])
def aJu:List B:=aI (B.neg dE)++aIx
def dG:B:=(.cmp .lt (.lit 256) (.app 83 (.cons (.var 1) (.cons (.lit 0) (.cons (.lit 0) .nil)))))
def aSN:List B:=aI dG++aJu
def aKs:List B:=aI (B.neg dG)++aJu
def dJ:B:=(.cmp .lt (.lit 1) (.var 0))
def aIW:List B:=aI dJ++aKs
def dN:B:=(.cmp .lt (.app 83 (.cons (.var 1) (.cons (.lit 1) (.cons (.lit 0) .nil)))) (.lit 1))
def aSm:List B:=aI dN++aIW
def aBw:SV:=(.tuple [(.agg [(.bool (.cmp .le (.lit 0) (.lit 1))),(.bool (.or (.and (.cmp .lt (.lit 0) (.var 0)) (.or (.cmp .lt (.app 83 (.cons (.var 1) (.cons (.lit 0) (.cons (.lit 0) .nil)))) (.lit 1)) (.cmp .lt (.lit 256) (.app 83 (.cons (.var 1) (.cons (.lit 0) (.cons (.lit 0) .nil))))))) (.or (.and (.cmp .lt (.lit 1) (.var 0)) (.or (.cmp .lt (.app 83 (.cons (.var 1) (.cons (.lit 1) (.cons (.lit 0) .nil)))) (.lit 1)) (.cmp .lt (.lit 256) (.app 83 (.cons (.var 1) (.cons (.lit 1) (.cons (.lit 0) .nil))))))) (.or (.and (.cmp .lt (.lit 2) (.var 0)) (.or (.cmp .lt (.app 83 (.cons (.var 1) (.cons (.lit 2) (.cons (.lit 0) .nil)))) (.lit 1)) (.cmp .lt (.lit 256) (.app 83 (.cons (.var 1) (.cons (.lit 2) (.cons (.lit 0) .nil))))))) (.or (.and (.cmp .lt (.lit 3) (.var 0)) (.or (.cmp .lt (.app 83 (.cons (.var 1) (.cons (.lit 3) (.cons (.lit 0) .nil)))) (.lit 1)) (.cmp .lt (.lit 256) (.app 83 (.cons (.var 1) (.cons (.lit 3) (.cons (.lit 0) .nil))))))) (.or (.and (.cmp .lt (.lit 4) (.var 0)) (.or (.cmp .lt (.app 83 (.cons (.var 1) (.cons (.lit 4) (.cons (.lit 0) .nil)))) (.lit 1)) (.cmp .lt (.lit 256) (.app 83 (.cons (.var 1) (.cons (.lit 4) (.cons (.lit 0) .nil))))))) (.or (.and (.cmp .lt (.lit 5) (.var 0)) (.or (.cmp .lt (.app 83 (.cons (.var 1) (.cons (.lit 5) (.cons (.lit 0) .nil)))) (.lit 1)) (.cmp .lt (.lit 256) (.app 83 (.cons (.var 1) (.cons (.lit 5) (.cons (.lit 0) .nil))))))) (.or (.and (.cmp .lt (.lit 6) (.var 0)) (.or (.cmp .lt (.app 83 (.cons (.var 1) (.cons (.lit 6) (.cons (.lit 0) .nil)))) (.lit 1)) (.cmp .lt (.lit 256) (.app 83 (.cons (.var 1) (.cons (.lit 6) (.cons (.lit 0) .nil))))))) (.and (.cmp .lt (.lit 7) (.var 0)) (.or (.cmp .lt (.app 83 (.cons (.var 1) (.cons (.lit 7) (.cons (.lit 0) .nil)))) (.lit 1)) (.cmp .lt (.lit 256) (.app 83 (.cons (.var 1) (.cons (.lit 7) (.cons (.lit 0) .nil)))))))))))))))]),(.bool (.lit true))])
def aH4:List B:=aI (B.neg dN)++aIW
def dR:B:=(.cmp .lt (.lit 256) (.app 83 (.cons (.var 1) (.cons (.lit 1) (.cons (.lit 0) .nil)))))
def aR6:List B:=aI dR++aH4
def aFQ:List B:=aI (B.neg dR)++aH4
def dW:B:=(.cmp .lt (.lit 2) (.var 0))
def aGl:List B:=aI dW++aFQ
def eE:B:=(.cmp .lt (.app 83 (.cons (.var 1) (.cons (.lit 2) (.cons (.lit 0) .nil)))) (.lit 1))
def aLH:List B:=aI eE++aGl
def aA8:SV:=(.tuple [(.agg [(.bool (.cmp .le (.lit 0) (.lit 2))),(.bool (.or (.and (.cmp .lt (.lit 0) (.var 0)) (.or (.cmp .lt (.app 83 (.cons (.var 1) (.cons (.lit 0) (.cons (.lit 0) .nil)))) (.lit 1)) (.cmp .lt (.lit 256) (.app 83 (.cons (.var 1) (.cons (.lit 0) (.cons (.lit 0) .nil))))))) (.or (.and (.cmp .lt (.lit 1) (.var 0)) (.or (.cmp .lt (.app 83 (.cons (.var 1) (.cons (.lit 1) (.cons (.lit 0) .nil)))) (.lit 1)) (.cmp .lt (.lit 256) (.app 83 (.cons (.var 1) (.cons (.lit 1) (.cons (.lit 0) .nil))))))) (.or (.and (.cmp .lt (.lit 2) (.var 0)) (.or (.cmp .lt (.app 83 (.cons (.var 1) (.cons (.lit 2) (.cons (.lit 0) .nil)))) (.lit 1)) (.cmp .lt (.lit 256) (.app 83 (.cons (.var 1) (.cons (.lit 2) (.cons (.lit 0) .nil))))))) (.or (.and (.cmp .lt (.lit 3) (.var 0)) (.or (.cmp .lt (.app 83 (.cons (.var 1) (.cons (.lit 3) (.cons (.lit 0) .nil)))) (.lit 1)) (.cmp .lt (.lit 256) (.app 83 (.cons (.var 1) (.cons (.lit 3) (.cons (.lit 0) .nil))))))) (.or (.and (.cmp .lt (.lit 4) (.var 0)) (.or (.cmp .lt (.app 83 (.cons (.var 1) (.cons (.lit 4) (.cons (.lit 0) .nil)))) (.lit 1)) (.cmp .lt (.lit 256) (.app 83 (.cons (.var 1) (.cons (.lit 4) (.cons (.lit 0) .nil))))))) (.or (.and (.cmp .lt (.lit 5) (.var 0)) (.or (.cmp .lt (.app 83 (.cons (.var 1) (.cons (.lit 5) (.cons (.lit 0) .nil)))) (.lit 1)) (.cmp .lt (.lit 256) (.app 83 (.cons (.var 1) (.cons (.lit 5) (.cons (.lit 0) .nil))))))) (.or (.and (.cmp .lt (.lit 6) (.var 0)) (.or (.cmp .lt (.app 83 (.cons (.var 1) (.cons (.lit 6) (.cons (.lit 0) .nil)))) (.lit 1)) (.cmp .lt (.lit 256) (.app 83 (.cons (.var 1) (.cons (.lit 6) (.cons (.lit 0) .nil))))))) (.and (.cmp .lt (.lit 7) (.var 0)) (.or (.cmp .lt (.app 83 (.cons (.var 1) (.cons (.lit 7) (.cons (.lit 0) .nil)))) (.lit 1)) (.cmp .lt (.lit 256) (.app 83 (.cons (.var 1) (.cons (.lit 7) (.cons (.lit 0) .nil)))))))))))))))]),(.bool (.lit true))])
def aFv:List B:=aI (B.neg eE)++aGl
def eJ:B:=(.cmp .lt (.lit 256) (.app 83 (.cons (.var 1) (.cons (.lit 2) (.cons (.lit 0) .nil)))))
def aOW:List B:=aI eJ++aFv
def aER:List B:=aI (B.neg eJ)++aFv
def eR:B:=(.cmp .lt (.lit 3) (.var 0))
def aFn:List B:=aI eR++aER
def dV:B:=(.cmp .lt (.app 83 (.cons (.var 1) (.cons (.lit 3) (.cons (.lit 0) .nil)))) (.lit 1))
def aOr:List B:=aI dV++aFn
def aB5:SV:=(.tuple [(.agg [(.bool (.cmp .le (.lit 0) (.lit 3))),(.bool (.or (.and (.cmp .lt (.lit 0) (.var 0)) (.or (.cmp .lt (.app 83 (.cons (.var 1) (.cons (.lit 0) (.cons (.lit 0) .nil)))) (.lit 1)) (.cmp .lt (.lit 256) (.app 83 (.cons (.var 1) (.cons (.lit 0) (.cons (.lit 0) .nil))))))) (.or (.and (.cmp .lt (.lit 1) (.var 0)) (.or (.cmp .lt (.app 83 (.cons (.var 1) (.cons (.lit 1) (.cons (.lit 0) .nil)))) (.lit 1)) (.cmp .lt (.lit 256) (.app 83 (.cons (.var 1) (.cons (.lit 1) (.cons (.lit 0) .nil))))))) (.or (.and (.cmp .lt (.lit 2) (.var 0)) (.or (.cmp .lt (.app 83 (.cons (.var 1) (.cons (.lit 2) (.cons (.lit 0) .nil)))) (.lit 1)) (.cmp .lt (.lit 256) (.app 83 (.cons (.var 1) (.cons (.lit 2) (.cons (.lit 0) .nil))))))) (.or (.and (.cmp .lt (.lit 3) (.var 0)) (.or (.cmp .lt (.app 83 (.cons (.var 1) (.cons (.lit 3) (.cons (.lit 0) .nil)))) (.lit 1)) (.cmp .lt (.lit 256) (.app 83 (.cons (.var 1) (.cons (.lit 3) (.cons (.lit 0) .nil))))))) (.or (.and (.cmp .lt (.lit 4) (.var 0)) (.or (.cmp .lt (.app 83 (.cons (.var 1) (.cons (.lit 4) (.cons (.lit 0) .nil)))) (.lit 1)) (.cmp .lt (.lit 256) (.app 83 (.cons (.var 1) (.cons (.lit 4) (.cons (.lit 0) .nil))))))) (.or (.and (.cmp .lt (.lit 5) (.var 0)) (.or (.cmp .lt (.app 83 (.cons (.var 1) (.cons (.lit 5) (.cons (.lit 0) .nil)))) (.lit 1)) (.cmp .lt (.lit 256) (.app 83 (.cons (.var 1) (.cons (.lit 5) (.cons (.lit 0) .nil))))))) (.or (.and (.cmp .lt (.lit 6) (.var 0)) (.or (.cmp .lt (.app 83 (.cons (.var 1) (.cons (.lit 6) (.cons (.lit 0) .nil)))) (.lit 1)) (.cmp .lt (.lit 256) (.app 83 (.cons (.var 1) (.cons (.lit 6) (.cons (.lit 0) .nil))))))) (.and (.cmp .lt (.lit 7) (.var 0)) (.or (.cmp .lt (.app 83 (.cons (.var 1) (.cons (.lit 7) (.cons (.lit 0) .nil)))) (.lit 1)) (.cmp .lt (.lit 256) (.app 83 (.cons (.var 1) (.cons (.lit 7) (.cons (.lit 0) .nil)))))))))))))))]),(.bool (.lit true))])
def aE9:List B:=aI (B.neg dV)++aFn
def eD:B:=(.cmp .lt (.lit 256) (.app 83 (.cons (.var 1) (.cons (.lit 3) (.cons (.lit 0) .nil)))))
def aMF:List B:=aI eD++aE9
def aFY:List B:=aI (B.neg eD)++aE9
def eI:B:=(.cmp .lt (.lit 4) (.var 0))
def aFb:List B:=aI eI++aFY
def eP:B:=(.cmp .lt (.app 83 (.cons (.var 1) (.cons (.lit 4) (.cons (.lit 0) .nil)))) (.lit 1))
def aQj:List B:=aI eP++aFb
def aBV:SV:=(.tuple [(.agg [(.bool (.cmp .le (.lit 0) (.lit 4))),(.bool (.or (.and (.cmp .lt (.lit 0) (.var 0)) (.or (.cmp .lt (.app 83 (.cons (.var 1) (.cons (.lit 0) (.cons (.lit 0) .nil)))) (.lit 1)) (.cmp .lt (.lit 256) (.app 83 (.cons (.var 1) (.cons (.lit 0) (.cons (.lit 0) .nil))))))) (.or (.and (.cmp .lt (.lit 1) (.var 0)) (.or (.cmp .lt (.app 83 (.cons (.var 1) (.cons (.lit 1) (.cons (.lit 0) .nil)))) (.lit 1)) (.cmp .lt (.lit 256) (.app 83 (.cons (.var 1) (.cons (.lit 1) (.cons (.lit 0) .nil))))))) (.or (.and (.cmp .lt (.lit 2) (.var 0)) (.or (.cmp .lt (.app 83 (.cons (.var 1) (.cons (.lit 2) (.cons (.lit 0) .nil)))) (.lit 1)) (.cmp .lt (.lit 256) (.app 83 (.cons (.var 1) (.cons (.lit 2) (.cons (.lit 0) .nil))))))) (.or (.and (.cmp .lt (.lit 3) (.var 0)) (.or (.cmp .lt (.app 83 (.cons (.var 1) (.cons (.lit 3) (.cons (.lit 0) .nil)))) (.lit 1)) (.cmp .lt (.lit 256) (.app 83 (.cons (.var 1) (.cons (.lit 3) (.cons (.lit 0) .nil))))))) (.or (.and (.cmp .lt (.lit 4) (.var 0)) (.or (.cmp .lt (.app 83 (.cons (.var 1) (.cons (.lit 4) (.cons (.lit 0) .nil)))) (.lit 1)) (.cmp .lt (.lit 256) (.app 83 (.cons (.var 1) (.cons (.lit 4) (.cons (.lit 0) .nil))))))) (.or (.and (.cmp .lt (.lit 5) (.var 0)) (.or (.cmp .lt (.app 83 (.cons (.var 1) (.cons (.lit 5) (.cons (.lit 0) .nil)))) (.lit 1)) (.cmp .lt (.lit 256) (.app 83 (.cons (.var 1) (.cons (.lit 5) (.cons (.lit 0) .nil))))))) (.or (.and (.cmp .lt (.lit 6) (.var 0)) (.or (.cmp .lt (.app 83 (.cons (.var 1) (.cons (.lit 6) (.cons (.lit 0) .nil)))) (.lit 1)) (.cmp .lt (.lit 256) (.app 83 (.cons (.var 1) (.cons (.lit 6) (.cons (.lit 0) .nil))))))) (.and (.cmp .lt (.lit 7) (.var 0)) (.or (.cmp .lt (.app 83 (.cons (.var 1) (.cons (.lit 7) (.cons (.lit 0) .nil)))) (.lit 1)) (.cmp .lt (.lit 256) (.app 83 (.cons (.var 1) (.cons (.lit 7) (.cons (.lit 0) .nil)))))))))))))))]),(.bool (.lit true))])
def aFD:List B:=aI (B.neg eP)++aFb
def fJ:B:=(.cmp .lt (.lit 256) (.app 83 (.cons (.var 1) (.cons (.lit 4) (.cons (.lit 0) .nil)))))
def aNn:List B:=aI fJ++aFD
def aEZ:List B:=aI (B.neg fJ)++aFD
def fS:B:=(.cmp .lt (.lit 5) (.var 0))
def aGJ:List B:=aI fS++aEZ
def gC:B:=(.cmp .lt (.app 83 (.cons (.var 1) (.cons (.lit 5) (.cons (.lit 0) .nil)))) (.lit 1))
def aMP:List B:=aI gC++aGJ
def aBv:SV:=(.tuple [(.agg [(.bool (.cmp .le (.lit 0) (.lit 5))),(.bool (.or (.and (.cmp .lt (.lit 0) (.var 0)) (.or (.cmp .lt (.app 83 (.cons (.var 1) (.cons (.lit 0) (.cons (.lit 0) .nil)))) (.lit 1)) (.cmp .lt (.lit 256) (.app 83 (.cons (.var 1) (.cons (.lit 0) (.cons (.lit 0) .nil))))))) (.or (.and (.cmp .lt (.lit 1) (.var 0)) (.or (.cmp .lt (.app 83 (.cons (.var 1) (.cons (.lit 1) (.cons (.lit 0) .nil)))) (.lit 1)) (.cmp .lt (.lit 256) (.app 83 (.cons (.var 1) (.cons (.lit 1) (.cons (.lit 0) .nil))))))) (.or (.and (.cmp .lt (.lit 2) (.var 0)) (.or (.cmp .lt (.app 83 (.cons (.var 1) (.cons (.lit 2) (.cons (.lit 0) .nil)))) (.lit 1)) (.cmp .lt (.lit 256) (.app 83 (.cons (.var 1) (.cons (.lit 2) (.cons (.lit 0) .nil))))))) (.or (.and (.cmp .lt (.lit 3) (.var 0)) (.or (.cmp .lt (.app 83 (.cons (.var 1) (.cons (.lit 3) (.cons (.lit 0) .nil)))) (.lit 1)) (.cmp .lt (.lit 256) (.app 83 (.cons (.var 1) (.cons (.lit 3) (.cons (.lit 0) .nil))))))) (.or (.and (.cmp .lt (.lit 4) (.var 0)) (.or (.cmp .lt (.app 83 (.cons (.var 1) (.cons (.lit 4) (.cons (.lit 0) .nil)))) (.lit 1)) (.cmp .lt (.lit 256) (.app 83 (.cons (.var 1) (.cons (.lit 4) (.cons (.lit 0) .nil))))))) (.or (.and (.cmp .lt (.lit 5) (.var 0)) (.or (.cmp .lt (.app 83 (.cons (.var 1) (.cons (.lit 5) (.cons (.lit 0) .nil)))) (.lit 1)) (.cmp .lt (.lit 256) (.app 83 (.cons (.var 1) (.cons (.lit 5) (.cons (.lit 0) .nil))))))) (.or (.and (.cmp .lt (.lit 6) (.var 0)) (.or (.cmp .lt (.app 83 (.cons (.var 1) (.cons (.lit 6) (.cons (.lit 0) .nil)))) (.lit 1)) (.cmp .lt (.lit 256) (.app 83 (.cons (.var 1) (.cons (.lit 6) (.cons (.lit 0) .nil))))))) (.and (.cmp .lt (.lit 7) (.var 0)) (.or (.cmp .lt (.app 83 (.cons (.var 1) (.cons (.lit 7) (.cons (.lit 0) .nil)))) (.lit 1)) (.cmp .lt (.lit 256) (.app 83 (.cons (.var 1) (.cons (.lit 7) (.cons (.lit 0) .nil)))))))))))))))]),(.bool (.lit true))])
def aF4:List B:=aI (B.neg gC)++aGJ
def iM:B:=(.cmp .lt (.lit 256) (.app 83 (.cons (.var 1) (.cons (.lit 5) (.cons (.lit 0) .nil)))))
def aQA:List B:=aI iM++aF4
def aFa:List B:=aI (B.neg iM)++aF4
def jH:B:=(.cmp .lt (.lit 6) (.var 0))
def aF5:List B:=aI jH++aFa
def kN:B:=(.cmp .lt (.app 83 (.cons (.var 1) (.cons (.lit 6) (.cons (.lit 0) .nil)))) (.lit 1))
def aNv:List B:=aI kN++aF5
def aBa:SV:=(.tuple [(.agg [(.bool (.cmp .le (.lit 0) (.lit 6))),(.bool (.or (.and (.cmp .lt (.lit 0) (.var 0)) (.or (.cmp .lt (.app 83 (.cons (.var 1) (.cons (.lit 0) (.cons (.lit 0) .nil)))) (.lit 1)) (.cmp .lt (.lit 256) (.app 83 (.cons (.var 1) (.cons (.lit 0) (.cons (.lit 0) .nil))))))) (.or (.and (.cmp .lt (.lit 1) (.var 0)) (.or (.cmp .lt (.app 83 (.cons (.var 1) (.cons (.lit 1) (.cons (.lit 0) .nil)))) (.lit 1)) (.cmp .lt (.lit 256) (.app 83 (.cons (.var 1) (.cons (.lit 1) (.cons (.lit 0) .nil))))))) (.or (.and (.cmp .lt (.lit 2) (.var 0)) (.or (.cmp .lt (.app 83 (.cons (.var 1) (.cons (.lit 2) (.cons (.lit 0) .nil)))) (.lit 1)) (.cmp .lt (.lit 256) (.app 83 (.cons (.var 1) (.cons (.lit 2) (.cons (.lit 0) .nil))))))) (.or (.and (.cmp .lt (.lit 3) (.var 0)) (.or (.cmp .lt (.app 83 (.cons (.var 1) (.cons (.lit 3) (.cons (.lit 0) .nil)))) (.lit 1)) (.cmp .lt (.lit 256) (.app 83 (.cons (.var 1) (.cons (.lit 3) (.cons (.lit 0) .nil))))))) (.or (.and (.cmp .lt (.lit 4) (.var 0)) (.or (.cmp .lt (.app 83 (.cons (.var 1) (.cons (.lit 4) (.cons (.lit 0) .nil)))) (.lit 1)) (.cmp .lt (.lit 256) (.app 83 (.cons (.var 1) (.cons (.lit 4) (.cons (.lit 0) .nil))))))) (.or (.and (.cmp .lt (.lit 5) (.var 0)) (.or (.cmp .lt (.app 83 (.cons (.var 1) (.cons (.lit 5) (.cons (.lit 0) .nil)))) (.lit 1)) (.cmp .lt (.lit 256) (.app 83 (.cons (.var 1) (.cons (.lit 5) (.cons (.lit 0) .nil))))))) (.or (.and (.cmp .lt (.lit 6) (.var 0)) (.or (.cmp .lt (.app 83 (.cons (.var 1) (.cons (.lit 6) (.cons (.lit 0) .nil)))) (.lit 1)) (.cmp .lt (.lit 256) (.app 83 (.cons (.var 1) (.cons (.lit 6) (.cons (.lit 0) .nil))))))) (.and (.cmp .lt (.lit 7) (.var 0)) (.or (.cmp .lt (.app 83 (.cons (.var 1) (.cons (.lit 7) (.cons (.lit 0) .nil)))) (.lit 1)) (.cmp .lt (.lit 256) (.app 83 (.cons (.var 1) (.cons (.lit 7) (.cons (.lit 0) .nil)))))))))))))))]),(.bool (.lit true))])
def aGc:List B:=aI (B.neg kN)++aF5
def lP:B:=(.cmp .lt (.lit 256) (.app 83 (.cons (.var 1) (.cons (.lit 6) (.cons (.lit 0) .nil)))))
def aLW:List B:=aI lP++aGc
def aGg:List B:=aI (B.neg lP)++aGc
def oK:B:=(.cmp .lt (.lit 7) (.var 0))
def aGV:List B:=aI oK++aGg
def qT:B:=(.cmp .lt (.app 83 (.cons (.var 1) (.cons (.lit 7) (.cons (.lit 0) .nil)))) (.lit 1))
def aPn:List B:=aI qT++aGV
def aBL:SV:=(.tuple [(.agg [(.bool (.cmp .le (.lit 0) (.lit 7))),(.bool (.or (.and (.cmp .lt (.lit 0) (.var 0)) (.or (.cmp .lt (.app 83 (.cons (.var 1) (.cons (.lit 0) (.cons (.lit 0) .nil)))) (.lit 1)) (.cmp .lt (.lit 256) (.app 83 (.cons (.var 1) (.cons (.lit 0) (.cons (.lit 0) .nil))))))) (.or (.and (.cmp .lt (.lit 1) (.var 0)) (.or (.cmp .lt (.app 83 (.cons (.var 1) (.cons (.lit 1) (.cons (.lit 0) .nil)))) (.lit 1)) (.cmp .lt (.lit 256) (.app 83 (.cons (.var 1) (.cons (.lit 1) (.cons (.lit 0) .nil))))))) (.or (.and (.cmp .lt (.lit 2) (.var 0)) (.or (.cmp .lt (.app 83 (.cons (.var 1) (.cons (.lit 2) (.cons (.lit 0) .nil)))) (.lit 1)) (.cmp .lt (.lit 256) (.app 83 (.cons (.var 1) (.cons (.lit 2) (.cons (.lit 0) .nil))))))) (.or (.and (.cmp .lt (.lit 3) (.var 0)) (.or (.cmp .lt (.app 83 (.cons (.var 1) (.cons (.lit 3) (.cons (.lit 0) .nil)))) (.lit 1)) (.cmp .lt (.lit 256) (.app 83 (.cons (.var 1) (.cons (.lit 3) (.cons (.lit 0) .nil))))))) (.or (.and (.cmp .lt (.lit 4) (.var 0)) (.or (.cmp .lt (.app 83 (.cons (.var 1) (.cons (.lit 4) (.cons (.lit 0) .nil)))) (.lit 1)) (.cmp .lt (.lit 256) (.app 83 (.cons (.var 1) (.cons (.lit 4) (.cons (.lit 0) .nil))))))) (.or (.and (.cmp .lt (.lit 5) (.var 0)) (.or (.cmp .lt (.app 83 (.cons (.var 1) (.cons (.lit 5) (.cons (.lit 0) .nil)))) (.lit 1)) (.cmp .lt (.lit 256) (.app 83 (.cons (.var 1) (.cons (.lit 5) (.cons (.lit 0) .nil))))))) (.or (.and (.cmp .lt (.lit 6) (.var 0)) (.or (.cmp .lt (.app 83 (.cons (.var 1) (.cons (.lit 6) (.cons (.lit 0) .nil)))) (.lit 1)) (.cmp .lt (.lit 256) (.app 83 (.cons (.var 1) (.cons (.lit 6) (.cons (.lit 0) .nil))))))) (.and (.cmp .lt (.lit 7) (.var 0)) (.or (.cmp .lt (.app 83 (.cons (.var 1) (.cons (.lit 7) (.cons (.lit 0) .nil)))) (.lit 1)) (.cmp .lt (.lit 256) (.app 83 (.cons (.var 1) (.cons (.lit 7) (.cons (.lit 0) .nil)))))))))))))))]),(.bool (.lit true))])
def aGj:List B:=aI (B.neg qT)++aGV
def tL:B:=(.cmp .lt (.lit 256) (.app 83 (.cons (.var 1) (.cons (.lit 7) (.cons (.lit 0) .nil)))))
def aL6:List B:=aI tL++aGj
def aM2:List B:=aI (B.neg tL)++aGj
def fE:SV:=(.tuple [(.agg [(.bool (.cmp .le (.lit 0) (.lit (-1)))),(.bool (.or (.and (.cmp .lt (.lit 0) (.var 0)) (.or (.cmp .lt (.app 83 (.cons (.var 1) (.cons (.lit 0) (.cons (.lit 0) .nil)))) (.lit 1)) (.cmp .lt (.lit 256) (.app 83 (.cons (.var 1) (.cons (.lit 0) (.cons (.lit 0) .nil))))))) (.or (.and (.cmp .lt (.lit 1) (.var 0)) (.or (.cmp .lt (.app 83 (.cons (.var 1) (.cons (.lit 1) (.cons (.lit 0) .nil)))) (.lit 1)) (.cmp .lt (.lit 256) (.app 83 (.cons (.var 1) (.cons (.lit 1) (.cons (.lit 0) .nil))))))) (.or (.and (.cmp .lt (.lit 2) (.var 0)) (.or (.cmp .lt (.app 83 (.cons (.var 1) (.cons (.lit 2) (.cons (.lit 0) .nil)))) (.lit 1)) (.cmp .lt (.lit 256) (.app 83 (.cons (.var 1) (.cons (.lit 2) (.cons (.lit 0) .nil))))))) (.or (.and (.cmp .lt (.lit 3) (.var 0)) (.or (.cmp .lt (.app 83 (.cons (.var 1) (.cons (.lit 3) (.cons (.lit 0) .nil)))) (.lit 1)) (.cmp .lt (.lit 256) (.app 83 (.cons (.var 1) (.cons (.lit 3) (.cons (.lit 0) .nil))))))) (.or (.and (.cmp .lt (.lit 4) (.var 0)) (.or (.cmp .lt (.app 83 (.cons (.var 1) (.cons (.lit 4) (.cons (.lit 0) .nil)))) (.lit 1)) (.cmp .lt (.lit 256) (.app 83 (.cons (.var 1) (.cons (.lit 4) (.cons (.lit 0) .nil))))))) (.or (.and (.cmp .lt (.lit 5) (.var 0)) (.or (.cmp .lt (.app 83 (.cons (.var 1) (.cons (.lit 5) (.cons (.lit 0) .nil)))) (.lit 1)) (.cmp .lt (.lit 256) (.app 83 (.cons (.var 1) (.cons (.lit 5) (.cons (.lit 0) .nil))))))) (.or (.and (.cmp .lt (.lit 6) (.var 0)) (.or (.cmp .lt (.app 83 (.cons (.var 1) (.cons (.lit 6) (.cons (.lit 0) .nil)))) (.lit 1)) (.cmp .lt (.lit 256) (.app 83 (.cons (.var 1) (.cons (.lit 6) (.cons (.lit 0) .nil))))))) (.and (.cmp .lt (.lit 7) (.var 0)) (.or (.cmp .lt (.app 83 (.cons (.var 1) (.cons (.lit 7) (.cons (.lit 0) .nil)))) (.lit 1)) (.cmp .lt (.lit 256) (.app 83 (.cons (.var 1) (.cons (.lit 7) (.cons (.lit 0) .nil)))))))))))))))]),(.bool (.lit true))])
def aNf:List B:=aI (B.neg oK)++aGg
def aQu:List B:=aI (B.neg jH)++aFa
def aQB:List B:=aI (B.neg fS)++aEZ
def aPm:List B:=aI (B.neg eI)++aFY
def aO9:List B:=aI (B.neg eR)++aER
def aPs:List B:=aI (B.neg dW)++aFQ
def aOj:List B:=aI (B.neg dJ)++aKs
def aLD:List B:=aI (B.neg cX)++aKn
end Go.Proofs.Ytdldallkeheciaa
set_option maxRecDepth 100000
namespace Go.Proofs.Ytdldallkeheciaa
open Go Go.RowKit Sx Wi Lk
theorem aSY:eU Try.prog aRE = .ok aBg:=by kernel_rfl
theorem aRL:eU Try.prog aSN = .ok aBg:=by kernel_rfl
theorem aSt:eU Try.prog aSm = .ok aBw:=by kernel_rfl
theorem aTj:eU Try.prog aR6 = .ok aBw:=by kernel_rfl
theorem aOv:eU Try.prog aLH = .ok aA8:=by kernel_rfl
theorem aM1:eU Try.prog aOW = .ok aA8:=by kernel_rfl
theorem aMG:eU Try.prog aOr = .ok aB5:=by kernel_rfl
theorem aPf:eU Try.prog aMF = .ok aB5:=by kernel_rfl
theorem aQd:eU Try.prog aQj = .ok aBV:=by kernel_rfl
theorem aQe:eU Try.prog aNn = .ok aBV:=by kernel_rfl
theorem aP3:eU Try.prog aMP = .ok aBv:=by kernel_rfl
theorem aPG:eU Try.prog aQA = .ok aBv:=by kernel_rfl
theorem aPp:eU Try.prog aNv = .ok aBa:=by kernel_rfl
theorem aPC:eU Try.prog aLW = .ok aBa:=by kernel_rfl
theorem aNk:eU Try.prog aPn = .ok aBL:=by kernel_rfl
theorem aMp:eU Try.prog aL6 = .ok aBL:=by kernel_rfl
theorem aN3:eU Try.prog aM2 = .ok fE:=by kernel_rfl
theorem aPV:eU Try.prog aNf = .ok fE:=by kernel_rfl
theorem aNg:eU Try.prog aQu = .ok fE:=by kernel_rfl
theorem aMr:eU Try.prog aQB = .ok fE:=by kernel_rfl
end Go.Proofs.Ytdldallkeheciaa
set_option maxRecDepth 100000
namespace Go.Proofs.Ytdldallkeheciaa
open Go Go.RowKit Sx Wi Lk
theorem aM4:eU Try.prog aPm = .ok fE:=by kernel_rfl
theorem aQp:eU Try.prog aO9 = .ok fE:=by kernel_rfl
theorem aMb:eU Try.prog aPs = .ok fE:=by kernel_rfl
theorem aPP:eU Try.prog aOj = .ok fE:=by kernel_rfl
theorem aQo:eU Try.prog aLD = .ok fE:=by kernel_rfl
end Go.Proofs.Ytdldallkeheciaa
