/- What is proved: the run of a function over its ways,and what is known on each. No condition. -/
import Derived.Test.YtdldallkeheciaaQa1
set_option linter.unusedSimpArgs false
set_option linter.unusedVariables false
set_option maxRecDepth 100000
namespace Go.Proofs.Ytdldallkeheciaa
open Go Go.RowKit Sx Wi Lk
def fE (P:Program) (fs:List B):Res SV:=aMP P fs
def aLy:List B:=[]
def dD:B:=(.cmp .lt (.lit 0) (.var 0))
def aMG:List B:=aJ dD++aLy
def dH:B:=(.cmp .lt (.app 83 (.cons (.var 1) (.cons (.lit 0) (.cons (.lit 0) .nil)))) (.lit 1))
def aUq:List B:=aJ dH++aMG
def aCx:SV:=(.tuple [(.agg [(.bool (.cmp .le (.lit 0) (.lit 0))),(.bool (.or (.and (.cmp .lt (.lit 0) (.var 0)) (.or (.cmp .lt (.app 83 (.cons (.var 1) (.cons (.lit 0) (.cons (.lit 0) .nil)))) (.lit 1)) (.cmp .lt (.lit 256) (.app 83 (.cons (.var 1) (.cons (.lit 0) (.cons (.lit 0) .nil))))))) (.or (.and (.cmp .lt (.lit 1) (.var 0)) (.or (.cmp .lt (.app 83 (.cons (.var 1) (.cons (.lit 1) (.cons (.lit 0) .nil)))) (.lit 1)) (.cmp .lt (.lit 256) (.app 83 (.cons (.var 1) (.cons (.lit 1) (.cons (.lit 0) .nil))))))) (.or (.and (.cmp .lt (.lit 2) (.var 0)) (.or (.cmp .lt (.app 83 (.cons (.var 1) (.cons (.lit 2) (.cons (.lit 0) .nil)))) (.lit 1)) (.cmp .lt (.lit 256) (.app 83 (.cons (.var 1) (.cons (.lit 2) (.cons (.lit 0) .nil))))))) (.or (.and (.cmp .lt (.lit 3) (.var 0)) (.or (.cmp .lt (.app 83 (.cons (.var 1) (.cons (.lit 3) (.cons (.lit 0) .nil)))) (.lit 1)) (.cmp .lt (.lit 256) (.app 83 (.cons (.var 1) (.cons (.lit 3) (.cons (.lit 0) .nil))))))) (.or (.and (.cmp .lt (.lit 4) (.var 0)) (.or (.cmp .lt (.app 83 (.cons (.var 1) (.cons (.lit 4) (.cons (.lit 0) .nil)))) (.lit 1)) (.cmp .lt (.lit 256) (.app 83 (.cons (.var 1) (.cons (.lit 4) (.cons (.lit 0) .nil))))))) (.or (.and (.cmp .lt (.lit 5) (.var 0)) (.or (.cmp .lt (.app 83 (.cons (.var 1) (.cons (.lit 5) (.cons (.lit 0) .nil)))) (.lit 1)) (.cmp .lt (.lit 256) (.app 83 (.cons (.var 1) (.cons (.lit 5) (.cons (.lit 0) .nil))))))) (.or (.and (.cmp .lt (.lit 6) (.var 0)) (.or (.cmp .lt (.app 83 (.cons (.var 1) (.cons (.lit 6) (.cons (.lit 0) .nil)))) (.lit 1)) (.cmp .lt (.lit 256) (.app 83 (.cons (.var 1) (.cons (.lit 6) (.cons (.lit 0) .nil))))))) (.and (.cmp .lt (.lit 7) (.var 0)) (.or (.cmp .lt (.app 83 (.cons (.var 1) (.cons (.lit 7) (.cons (.lit 0) .nil)))) (.lit 1)) (.cmp .lt (.lit 256) (.app 83 (.cons (.var 1) (.cons (.lit 7) (.cons (.lit 0) .nil)))))))))))))))]),(.bool (.lit true))])
def aKA:List B:=aJ (B.neg dH)++aMG
def dJ:B:=(.cmp .lt (.lit 256) (.app 83 (.cons (.var 1) (.cons (.lit 0) (.cons (.lit 0) .nil)))))
def aUy:List B:=aJ dJ++aKA
def aLg:List B:=aJ (B.neg dJ)++aKA
def dL:B:=(.cmp .lt (.lit 1) (.var 0))
def aLi:List B:=aJ dL++aLg
def dR:B:=(.cmp .lt (.app 83 (.cons (.var 1) (.cons (.lit 1) (.cons (.lit 0) .nil)))) (.lit 1))
def aUI:List B:=aJ dR++aLi
def aBE:SV:=(.tuple [(.agg [(.bool (.cmp .le (.lit 0) (.lit 1))),(.bool (.or (.and (.cmp .lt (.lit 0) (.var 0)) (.or (.cmp .lt (.app 83 (.cons (.var 1) (.cons (.lit 0) (.cons (.lit 0) .nil)))) (.lit 1)) (.cmp .lt (.lit 256) (.app 83 (.cons (.var 1) (.cons (.lit 0) (.cons (.lit 0) .nil))))))) (.or (.and (.cmp .lt (.lit 1) (.var 0)) (.or (.cmp .lt (.app 83 (.cons (.var 1) (.cons (.lit 1) (.cons (.lit 0) .nil)))) (.lit 1)) (.cmp .lt (.lit 256) (.app 83 (.cons (.var 1) (.cons (.lit 1) (.cons (.lit 0) .nil))))))) (.or (.and (.cmp .lt (.lit 2) (.var 0)) (.or (.cmp .lt (.app 83 (.cons (.var 1) (.cons (.lit 2) (.cons (.lit 0) .nil)))) (.lit 1)) (.cmp .lt (.lit 256) (.app 83 (.cons (.var 1) (.cons (.lit 2) (.cons (.lit 0) .nil))))))) (.or (.and (.cmp .lt (.lit 3) (.var 0)) (.or (.cmp .lt (.app 83 (.cons (.var 1) (.cons (.lit 3) (.cons (.lit 0) .nil)))) (.lit 1)) (.cmp .lt (.lit 256) (.app 83 (.cons (.var 1) (.cons (.lit 3) (.cons (.lit 0) .nil))))))) (.or (.and (.cmp .lt (.lit 4) (.var 0)) (.or (.cmp .lt (.app 83 (.cons (.var 1) (.cons (.lit 4) (.cons (.lit 0) .nil)))) (.lit 1)) (.cmp .lt (.lit 256) (.app 83 (.cons (.var 1) (.cons (.lit 4) (.cons (.lit 0) .nil))))))) (.or (.and (.cmp .lt (.lit 5) (.var 0)) (.or (.cmp .lt (.app 83 (.cons (.var 1) (.cons (.lit 5) (.cons (.lit 0) .nil)))) (.lit 1)) (.cmp .lt (.lit 256) (.app 83 (.cons (.var 1) (.cons (.lit 5) (.cons (.lit 0) .nil))))))) (.or (.and (.cmp .lt (.lit 6) (.var 0)) (.or (.cmp .lt (.app 83 (.cons (.var 1) (.cons (.lit 6) (.cons (.lit 0) .nil)))) (.lit 1)) (.cmp .lt (.lit 256) (.app 83 (.cons (.var 1) (.cons (.lit 6) (.cons (.lit 0) .nil))))))) (.and (.cmp .lt (.lit 7) (.var 0)) (.or (.cmp .lt (.app 83 (.cons (.var 1) (.cons (.lit 7) (.cons (.lit 0) .nil)))) (.lit 1)) (.cmp .lt (.lit 256) (.app 83 (.cons (.var 1) (.cons (.lit 7) (.cons (.lit 0) .nil)))))))))))))))]),(.bool (.lit true))])
def aKE:List B:=aJ (B.neg dR)++aLi
def dV:B:=(.cmp .lt (.lit 256) (.app 83 (.cons (.var 1) (.cons (.lit 1) (.cons (.lit 0) .nil)))))
def aS3:List B:=aJ dV++aKE
def aGd:List B:=aJ (B.neg dV)++aKE
def eE:B:=(.cmp .lt (.lit 2) (.var 0))
def aHd:List B:=aJ eE++aGd
def eL:B:=(.cmp .lt (.app 83 (.cons (.var 1) (.cons (.lit 2) (.cons (.lit 0) .nil)))) (.lit 1))
def aPi:List B:=aJ eL++aHd
def aBo:SV:=(.tuple [(.agg [(.bool (.cmp .le (.lit 0) (.lit 2))),(.bool (.or (.and (.cmp .lt (.lit 0) (.var 0)) (.or (.cmp .lt (.app 83 (.cons (.var 1) (.cons (.lit 0) (.cons (.lit 0) .nil)))) (.lit 1)) (.cmp .lt (.lit 256) (.app 83 (.cons (.var 1) (.cons (.lit 0) (.cons (.lit 0) .nil))))))) (.or (.and (.cmp .lt (.lit 1) (.var 0)) (.or (.cmp .lt (.app 83 (.cons (.var 1) (.cons (.lit 1) (.cons (.lit 0) .nil)))) (.lit 1)) (.cmp .lt (.lit 256) (.app 83 (.cons (.var 1) (.cons (.lit 1) (.cons (.lit 0) .nil))))))) (.or (.and (.cmp .lt (.lit 2) (.var 0)) (.or (.cmp .lt (.app 83 (.cons (.var 1) (.cons (.lit 2) (.cons (.lit 0) .nil)))) (.lit 1)) (.cmp .lt (.lit 256) (.app 83 (.cons (.var 1) (.cons (.lit 2) (.cons (.lit 0) .nil))))))) (.or (.and (.cmp .lt (.lit 3) (.var 0)) (.or (.cmp .lt (.app 83 (.cons (.var 1) (.cons (.lit 3) (.cons (.lit 0) .nil)))) (.lit 1)) (.cmp .lt (.lit 256) (.app 83 (.cons (.var 1) (.cons (.lit 3) (.cons (.lit 0) .nil))))))) (.or (.and (.cmp .lt (.lit 4) (.var 0)) (.or (.cmp .lt (.app 83 (.cons (.var 1) (.cons (.lit 4) (.cons (.lit 0) .nil)))) (.lit 1)) (.cmp .lt (.lit 256) (.app 83 (.cons (.var 1) (.cons (.lit 4) (.cons (.lit 0) .nil))))))) (.or (.and (.cmp .lt (.lit 5) (.var 0)) (.or (.cmp .lt (.app 83 (.cons (.var 1) (.cons (.lit 5) (.cons (.lit 0) .nil)))) (.lit 1)) (.cmp .lt (.lit 256) (.app 83 (.cons (.var 1) (.cons (.lit 5) (.cons (.lit 0) .nil))))))) (.or (.and (.cmp .lt (.lit 6) (.var 0)) (.or (.cmp .lt (.app 83 (.cons (.var 1) (.cons (.lit 6) (.cons (.lit 0) .nil)))) (.lit 1)) (.cmp .lt (.lit 256) (.app 83 (.cons (.var 1) (.cons (.lit 6) (.cons (.lit 0) .nil))))))) (.and (.cmp .lt (.lit 7) (.var 0)) (.or (.cmp .lt (.app 83 (.cons (.var 1) (.cons (.lit 7) (.cons (.lit 0) .nil)))) (.lit 1)) (.cmp .lt (.lit 256) (.app 83 (.cons (.var 1) (.cons (.lit 7) (.cons (.lit 0) .nil)))))))))))))))]),(.bool (.lit true))])
def aHi:List B:=aJ (B.neg eL)++aHd
def eR:B:=(.cmp .lt (.lit 256) (.app 83 (.cons (.var 1) (.cons (.lit 2) (.cons (.lit 0) .nil)))))
def aRB:List B:=aJ eR++aHi
def aF3:List B:=aJ (B.neg eR)++aHi
def eZ:B:=(.cmp .lt (.lit 3) (.var 0))
def aHl:List B:=aJ eZ++aF3
def eB:B:=(.cmp .lt (.app 83 (.cons (.var 1) (.cons (.lit 3) (.cons (.lit 0) .nil)))) (.lit 1))
def aQ7:List B:=aJ eB++aHl
def aCV:SV:=(.tuple [(.agg [(.bool (.cmp .le (.lit 0) (.lit 3))),(.bool (.or (.and (.cmp .lt (.lit 0) (.var 0)) (.or (.cmp .lt (.app 83 (.cons (.var 1) (.cons (.lit 0) (.cons (.lit 0) .nil)))) (.lit 1)) (.cmp .lt (.lit 256) (.app 83 (.cons (.var 1) (.cons (.lit 0) (.cons (.lit 0) .nil))))))) (.or (.and (.cmp .lt (.lit 1) (.var 0)) (.or (.cmp .lt (.app 83 (.cons (.var 1) (.cons (.lit 1) (.cons (.lit 0) .nil)))) (.lit 1)) (.cmp .lt (.lit 256) (.app 83 (.cons (.var 1) (.cons (.lit 1) (.cons (.lit 0) .nil))))))) (.or (.and (.cmp .lt (.lit 2) (.var 0)) (.or (.cmp .lt (.app 83 (.cons (.var 1) (.cons (.lit 2) (.cons (.lit 0) .nil)))) (.lit 1)) (.cmp .lt (.lit 256) (.app 83 (.cons (.var 1) (.cons (.lit 2) (.cons (.lit 0) .nil))))))) (.or (.and (.cmp .lt (.lit 3) (.var 0)) (.or (.cmp .lt (.app 83 (.cons (.var 1) (.cons (.lit 3) (.cons (.lit 0) .nil)))) (.lit 1)) (.cmp .lt (.lit 256) (.app 83 (.cons (.var 1) (.cons (.lit 3) (.cons (.lit 0) .nil))))))) (.or (.and (.cmp .lt (.lit 4) (.var 0)) (.or (.cmp .lt (.app 83 (.cons (.var 1) (.cons (.lit 4) (.cons (.lit 0) .nil)))) (.lit 1)) (.cmp .lt (.lit 256) (.app 83 (.cons (.var 1) (.cons (.lit 4) (.cons (.lit 0) .nil))))))) (.or (.and (.cmp .lt (.lit 5) (.var 0)) (.or (.cmp .lt (.app 83 (.cons (.var 1) (.cons (.lit 5) (.cons (.lit 0) .nil)))) (.lit 1)) (.cmp .lt (.lit 256) (.app 83 (.cons (.var 1) (.cons (.lit 5) (.cons (.lit 0) .nil))))))) (.or (.and (.cmp .lt (.lit 6) (.var 0)) (.or (.cmp .lt (.app 83 (.cons (.var 1) (.cons (.lit 6) (.cons (.lit 0) .nil)))) (.lit 1)) (.cmp .lt (.lit 256) (.app 83 (.cons (.var 1) (.cons (.lit 6) (.cons (.lit 0) .nil))))))) (.and (.cmp .lt (.lit 7) (.var 0)) (.or (.cmp .lt (.app 83 (.cons (.var 1) (.cons (.lit 7) (.cons (.lit 0) .nil)))) (.lit 1)) (.cmp .lt (.lit 256) (.app 83 (.cons (.var 1) (.cons (.lit 7) (.cons (.lit 0) .nil)))))))))))))))]),(.bool (.lit true))])
def aHb:List B:=aJ (B.neg eB)++aHl
def eI:B:=(.cmp .lt (.lit 256) (.app 83 (.cons (.var 1) (.cons (.lit 3) (.cons (.lit 0) .nil)))))
def aQg:List B:=aJ eI++aHb
def aHB:List B:=aJ (B.neg eI)++aHb
def eP:B:=(.cmp .lt (.lit 4) (.var 0))
def aGD:List B:=aJ eP++aHB
def fB:B:=(.cmp .lt (.app 83 (.cons (.var 1) (.cons (.lit 4) (.cons (.lit 0) .nil)))) (.lit 1))
def aMX:List B:=aJ fB++aGD
def aBD:SV:=(.tuple [(.agg [(.bool (.cmp .le (.lit 0) (.lit 4))),(.bool (.or (.and (.cmp .lt (.lit 0) (.var 0)) (.or (.cmp .lt (.app 83 (.cons (.var 1) (.cons (.lit 0) (.cons (.lit 0) .nil)))) (.lit 1)) (.cmp .lt (.lit 256) (.app 83 (.cons (.var 1) (.cons (.lit 0) (.cons (.lit 0) .nil))))))) (.or (.and (.cmp .lt (.lit 1) (.var 0)) (.or (.cmp .lt (.app 83 (.cons (.var 1) (.cons (.lit 1) (.cons (.lit 0) .nil)))) (.lit 1)) (.cmp .lt (.lit 256) (.app 83 (.cons (.var 1) (.cons (.lit 1) (.cons (.lit 0) .nil))))))) (.or (.and (.cmp .lt (.lit 2) (.var 0)) (.or (.cmp .lt (.app 83 (.cons (.var 1) (.cons (.lit 2) (.cons (.lit 0) .nil)))) (.lit 1)) (.cmp .lt (.lit 256) (.app 83 (.cons (.var 1) (.cons (.lit 2) (.cons (.lit 0) .nil))))))) (.or (.and (.cmp .lt (.lit 3) (.var 0)) (.or (.cmp .lt (.app 83 (.cons (.var 1) (.cons (.lit 3) (.cons (.lit 0) .nil)))) (.lit 1)) (.cmp .lt (.lit 256) (.app 83 (.cons (.var 1) (.cons (.lit 3) (.cons (.lit 0) .nil))))))) (.or (.and (.cmp .lt (.lit 4) (.var 0)) (.or (.cmp .lt (.app 83 (.cons (.var 1) (.cons (.lit 4) (.cons (.lit 0) .nil)))) (.lit 1)) (.cmp .lt (.lit 256) (.app 83 (.cons (.var 1) (.cons (.lit 4) (.cons (.lit 0) .nil))))))) (.or (.and (.cmp .lt (.lit 5) (.var 0)) (.or (.cmp .lt (.app 83 (.cons (.var 1) (.cons (.lit 5) (.cons (.lit 0) .nil)))) (.lit 1)) (.cmp .lt (.lit 256) (.app 83 (.cons (.var 1) (.cons (.lit 5) (.cons (.lit 0) .nil))))))) (.or (.and (.cmp .lt (.lit 6) (.var 0)) (.or (.cmp .lt (.app 83 (.cons (.var 1) (.cons (.lit 6) (.cons (.lit 0) .nil)))) (.lit 1)) (.cmp .lt (.lit 256) (.app 83 (.cons (.var 1) (.cons (.lit 6) (.cons (.lit 0) .nil))))))) (.and (.cmp .lt (.lit 7) (.var 0)) (.or (.cmp .lt (.app 83 (.cons (.var 1) (.cons (.lit 7) (.cons (.lit 0) .nil)))) (.lit 1)) (.cmp .lt (.lit 256) (.app 83 (.cons (.var 1) (.cons (.lit 7) (.cons (.lit 0) .nil)))))))))))))))]),(.bool (.lit true))])
def aGi:List B:=aJ (B.neg fB)++aGD
def fN:B:=(.cmp .lt (.lit 256) (.app 83 (.cons (.var 1) (.cons (.lit 4) (.cons (.lit 0) .nil)))))
def aNU:List B:=aJ fN++aGi
def aGT:List B:=aJ (B.neg fN)++aGi
def gD:B:=(.cmp .lt (.lit 5) (.var 0))
def aFV:List B:=aJ gD++aGT
def gO:B:=(.cmp .lt (.app 83 (.cons (.var 1) (.cons (.lit 5) (.cons (.lit 0) .nil)))) (.lit 1))
def aNV:List B:=aJ gO++aFV
def aCu:SV:=(.tuple [(.agg [(.bool (.cmp .le (.lit 0) (.lit 5))),(.bool (.or (.and (.cmp .lt (.lit 0) (.var 0)) (.or (.cmp .lt (.app 83 (.cons (.var 1) (.cons (.lit 0) (.cons (.lit 0) .nil)))) (.lit 1)) (.cmp .lt (.lit 256) (.app 83 (.cons (.var 1) (.cons (.lit 0) (.cons (.lit 0) .nil))))))) (.or (.and (.cmp .lt (.lit 1) (.var 0)) (.or (.cmp .lt (.app 83 (.cons (.var 1) (.cons (.lit 1) (.cons (.lit 0) .nil)))) (.lit 1)) (.cmp .lt (.lit 256) (.app 83 (.cons (.var 1) (.cons (.lit 1) (.cons (.lit 0) .nil))))))) (.or (.and (.cmp .lt (.lit 2) (.var 0)) (.or (.cmp .lt (.app 83 (.cons (.var 1) (.cons (.lit 2) (.cons (.lit 0) .nil)))) (.lit 1)) (.cmp .lt (.lit 256) (.app 83 (.cons (.var 1) (.cons (.lit 2) (.cons (.lit 0) .nil))))))) (.or (.and (.cmp .lt (.lit 3) (.var 0)) (.or (.cmp .lt (.app 83 (.cons (.var 1) (.cons (.lit 3) (.cons (.lit 0) .nil)))) (.lit 1)) (.cmp .lt (.lit 256) (.app 83 (.cons (.var 1) (.cons (.lit 3) (.cons (.lit 0) .nil))))))) (.or (.and (.cmp .lt (.lit 4) (.var 0)) (.or (.cmp .lt (.app 83 (.cons (.var 1) (.cons (.lit 4) (.cons (.lit 0) .nil)))) (.lit 1)) (.cmp .lt (.lit 256) (.app 83 (.cons (.var 1) (.cons (.lit 4) (.cons (.lit 0) .nil))))))) (.or (.and (.cmp .lt (.lit 5) (.var 0)) (.or (.cmp .lt (.app 83 (.cons (.var 1) (.cons (.lit 5) (.cons (.lit 0) .nil)))) (.lit 1)) (.cmp .lt (.lit 256) (.app 83 (.cons (.var 1) (.cons (.lit 5) (.cons (.lit 0) .nil))))))) (.or (.and (.cmp .lt (.lit 6) (.var 0)) (.or (.cmp .lt (.app 83 (.cons (.var 1) (.cons (.lit 6) (.cons (.lit 0) .nil)))) (.lit 1)) (.cmp .lt (.lit 256) (.app 83 (.cons (.var 1) (.cons (.lit 6) (.cons (.lit 0) .nil))))))) (.and (.cmp .lt (.lit 7) (.var 0)) (.or (.cmp .lt (.app 83 (.cons (.var 1) (.cons (.lit 7) (.cons (.lit 0) .nil)))) (.lit 1)) (.cmp .lt (.lit 256) (.app 83 (.cons (.var 1) (.cons (.lit 7) (.cons (.lit 0) .nil)))))))))))))))]),(.bool (.lit true))])
def aHp:List B:=aJ (B.neg gO)++aFV
def iM:B:=(.cmp .lt (.lit 256) (.app 83 (.cons (.var 1) (.cons (.lit 5) (.cons (.lit 0) .nil)))))
def aOU:List B:=aJ iM++aHp
def aGE:List B:=aJ (B.neg iM)++aHp
def jV:B:=(.cmp .lt (.lit 6) (.var 0))
def aHr:List B:=aJ jV++aGE
def kQ:B:=(.cmp .lt (.app 83 (.cons (.var 1) (.cons (.lit 6) (.cons (.lit 0) .nil)))) (.lit 1))
def aPx:List B:=aJ kQ++aHr
def aB4:SV:=(.tuple [(.agg [(.bool (.cmp .le (.lit 0) (.lit 6))),(.bool (.or (.and (.cmp .lt (.lit 0) (.var 0)) (.or (.cmp .lt (.app 83 (.cons (.var 1) (.cons (.lit 0) (.cons (.lit 0) .nil)))) (.lit 1)) (.cmp .lt (.lit 256) (.app 83 (.cons (.var 1) (.cons (.lit 0) (.cons (.lit 0) .nil))))))) (.or (.and (.cmp .lt (.lit 1) (.var 0)) (.or (.cmp .lt (.app 83 (.cons (.var 1) (.cons (.lit 1) (.cons (.lit 0) .nil)))) (.lit 1)) (.cmp .lt (.lit 256) (.app 83 (.cons (.var 1) (.cons (.lit 1) (.cons (.lit 0) .nil))))))) (.or (.and (.cmp .lt (.lit 2) (.var 0)) (.or (.cmp .lt (.app 83 (.cons (.var 1) (.cons (.lit 2) (.cons (.lit 0) .nil)))) (.lit 1)) (.cmp .lt (.lit 256) (.app 83 (.cons (.var 1) (.cons (.lit 2) (.cons (.lit 0) .nil))))))) (.or (.and (.cmp .lt (.lit 3) (.var 0)) (.or (.cmp .lt (.app 83 (.cons (.var 1) (.cons (.lit 3) (.cons (.lit 0) .nil)))) (.lit 1)) (.cmp .lt (.lit 256) (.app 83 (.cons (.var 1) (.cons (.lit 3) (.cons (.lit 0) .nil))))))) (.or (.and (.cmp .lt (.lit 4) (.var 0)) (.or (.cmp .lt (.app 83 (.cons (.var 1) (.cons (.lit 4) (.cons (.lit 0) .nil)))) (.lit 1)) (.cmp .lt (.lit 256) (.app 83 (.cons (.var 1) (.cons (.lit 4) (.cons (.lit 0) .nil))))))) (.or (.and (.cmp .lt (.lit 5) (.var 0)) (.or (.cmp .lt (.app 83 (.cons (.var 1) (.cons (.lit 5) (.cons (.lit 0) .nil)))) (.lit 1)) (.cmp .lt (.lit 256) (.app 83 (.cons (.var 1) (.cons (.lit 5) (.cons (.lit 0) .nil))))))) (.or (.and (.cmp .lt (.lit 6) (.var 0)) (.or (.cmp .lt (.app 83 (.cons (.var 1) (.cons (.lit 6) (.cons (.lit 0) .nil)))) (.lit 1)) (.cmp .lt (.lit 256) (.app 83 (.cons (.var 1) (.cons (.lit 6) (.cons (.lit 0) .nil))))))) (.and (.cmp .lt (.lit 7) (.var 0)) (.or (.cmp .lt (.app 83 (.cons (.var 1) (.cons (.lit 7) (.cons (.lit 0) .nil)))) (.lit 1)) (.cmp .lt (.lit 256) (.app 83 (.cons (.var 1) (.cons (.lit 7) (.cons (.lit 0) .nil)))))))))))))))]),(.bool (.lit true))])
def aFM:List B:=aJ (B.neg kQ)++aHr
def mB:B:=(.cmp .lt (.lit 256) (.app 83 (.cons (.var 1) (.cons (.lit 6) (.cons (.lit 0) .nil)))))
def aOk:List B:=aJ mB++aFM
def aHg:List B:=aJ (B.neg mB)++aFM
def oO:B:=(.cmp .lt (.lit 7) (.var 0))
def aFJ:List B:=aJ oO++aHg
def qK:B:=(.cmp .lt (.app 83 (.cons (.var 1) (.cons (.lit 7) (.cons (.lit 0) .nil)))) (.lit 1))
def aPd:List B:=aJ qK++aFJ
def aBU:SV:=(.tuple [(.agg [(.bool (.cmp .le (.lit 0) (.lit 7))),(.bool (.or (.and (.cmp .lt (.lit 0) (.var 0)) (.or (.cmp .lt (.app 83 (.cons (.var 1) (.cons (.lit 0) (.cons (.lit 0) .nil)))) (.lit 1)) (.cmp .lt (.lit 256) (.app 83 (.cons (.var 1) (.cons (.lit 0) (.cons (.lit 0) .nil))))))) (.or (.and (.cmp .lt (.lit 1) (.var 0)) (.or (.cmp .lt (.app 83 (.cons (.var 1) (.cons (.lit 1) (.cons (.lit 0) .nil)))) (.lit 1)) (.cmp .lt (.lit 256) (.app 83 (.cons (.var 1) (.cons (.lit 1) (.cons (.lit 0) .nil))))))) (.or (.and (.cmp .lt (.lit 2) (.var 0)) (.or (.cmp .lt (.app 83 (.cons (.var 1) (.cons (.lit 2) (.cons (.lit 0) .nil)))) (.lit 1)) (.cmp .lt (.lit 256) (.app 83 (.cons (.var 1) (.cons (.lit 2) (.cons (.lit 0) .nil))))))) (.or (.and (.cmp .lt (.lit 3) (.var 0)) (.or (.cmp .lt (.app 83 (.cons (.var 1) (.cons (.lit 3) (.cons (.lit 0) .nil)))) (.lit 1)) (.cmp .lt (.lit 256) (.app 83 (.cons (.var 1) (.cons (.lit 3) (.cons (.lit 0) .nil))))))) (.or (.and (.cmp .lt (.lit 4) (.var 0)) (.or (.cmp .lt (.app 83 (.cons (.var 1) (.cons (.lit 4) (.cons (.lit 0) .nil)))) (.lit 1)) (.cmp .lt (.lit 256) (.app 83 (.cons (.var 1) (.cons (.lit 4) (.cons (.lit 0) .nil))))))) (.or (.and (.cmp .lt (.lit 5) (.var 0)) (.or (.cmp .lt (.app 83 (.cons (.var 1) (.cons (.lit 5) (.cons (.lit 0) .nil)))) (.lit 1)) (.cmp .lt (.lit 256) (.app 83 (.cons (.var 1) (.cons (.lit 5) (.cons (.lit 0) .nil))))))) (.or (.and (.cmp .lt (.lit 6) (.var 0)) (.or (.cmp .lt (.app 83 (.cons (.var 1) (.cons (.lit 6) (.cons (.lit 0) .nil)))) (.lit 1)) (.cmp .lt (.lit 256) (.app 83 (.cons (.var 1) (.cons (.lit 6) (.cons (.lit 0) .nil))))))) (.and (.cmp .lt (.lit 7) (.var 0)) (.or (.cmp .lt (.app 83 (.cons (.var 1) (.cons (.lit 7) (.cons (.lit 0) .nil)))) (.lit 1)) (.cmp .lt (.lit 256) (.app 83 (.cons (.var 1) (.cons (.lit 7) (.cons (.lit 0) .nil)))))))))))))))]),(.bool (.lit true))])
def aGK:List B:=aJ (B.neg qK)++aFJ
def sN:B:=(.cmp .lt (.lit 256) (.app 83 (.cons (.var 1) (.cons (.lit 7) (.cons (.lit 0) .nil)))))
def aOY:List B:=aJ sN++aGK
def aRd:List B:=aJ (B.neg sN)++aGK
def fM:SV:=(.tuple [(.agg [(.bool (.cmp .le (.lit 0) (.lit (-1)))),(.bool (.or (.and (.cmp .lt (.lit 0) (.var 0)) (.or (.cmp .lt (.app 83 (.cons (.var 1) (.cons (.lit 0) (.cons (.lit 0) .nil)))) (.lit 1)) (.cmp .lt (.lit 256) (.app 83 (.cons (.var 1) (.cons (.lit 0) (.cons (.lit 0) .nil))))))) (.or (.and (.cmp .lt (.lit 1) (.var 0)) (.or (.cmp .lt (.app 83 (.cons (.var 1) (.cons (.lit 1) (.cons (.lit 0) .nil)))) (.lit 1)) (.cmp .lt (.lit 256) (.app 83 (.cons (.var 1) (.cons (.lit 1) (.cons (.lit 0) .nil))))))) (.or (.and (.cmp .lt (.lit 2) (.var 0)) (.or (.cmp .lt (.app 83 (.cons (.var 1) (.cons (.lit 2) (.cons (.lit 0) .nil)))) (.lit 1)) (.cmp .lt (.lit 256) (.app 83 (.cons (.var 1) (.cons (.lit 2) (.cons (.lit 0) .nil))))))) (.or (.and (.cmp .lt (.lit 3) (.var 0)) (.or (.cmp .lt (.app 83 (.cons (.var 1) (.cons (.lit 3) (.cons (.lit 0) .nil)))) (.lit 1)) (.cmp .lt (.lit 256) (.app 83 (.cons (.var 1) (.cons (.lit 3) (.cons (.lit 0) .nil))))))) (.or (.and (.cmp .lt (.lit 4) (.var 0)) (.or (.cmp .lt (.app 83 (.cons (.var 1) (.cons (.lit 4) (.cons (.lit 0) .nil)))) (.lit 1)) (.cmp .lt (.lit 256) (.app 83 (.cons (.var 1) (.cons (.lit 4) (.cons (.lit 0) .nil))))))) (.or (.and (.cmp .lt (.lit 5) (.var 0)) (.or (.cmp .lt (.app 83 (.cons (.var 1) (.cons (.lit 5) (.cons (.lit 0) .nil)))) (.lit 1)) (.cmp .lt (.lit 256) (.app 83 (.cons (.var 1) (.cons (.lit 5) (.cons (.lit 0) .nil))))))) (.or (.and (.cmp .lt (.lit 6) (.var 0)) (.or (.cmp .lt (.app 83 (.cons (.var 1) (.cons (.lit 6) (.cons (.lit 0) .nil)))) (.lit 1)) (.cmp .lt (.lit 256) (.app 83 (.cons (.var 1) (.cons (.lit 6) (.cons (.lit 0) .nil))))))) (.and (.cmp .lt (.lit 7) (.var 0)) (.or (.cmp .lt (.app 83 (.cons (.var 1) (.cons (.lit 7) (.cons (.lit 0) .nil)))) (.lit 1)) (.cmp .lt (.lit 256) (.app 83 (.cons (.var 1) (.cons (.lit 7) (.cons (.lit 0) .nil)))))))))))))))]),(.bool (.lit true))])
def aQW:List B:=aJ (B.neg oO)++aHg
def aN0:List B:=aJ (B.neg jV)++aGE
def aQx:List B:=aJ (B.neg gD)++aGT
def aN2:List B:=aJ (B.neg eP)++aHB
def aRq:List B:=aJ (B.neg eZ)++aF3
def aQK:List B:=aJ (B.neg eE)++aGd
def aQf:List B:=aJ (B.neg dL)++aLg
def aPs:List B:=aJ (B.neg dD)++aLy
end Go.Proofs.Ytdldallkeheciaa
set_option maxRecDepth 100000
namespace Go.Proofs.Ytdldallkeheciaa
open Go Go.RowKit Sx Wi Lk
theorem aUg:fE Try.prog aUq = .ok aCx:=by kernel_rfl
theorem aUF:fE Try.prog aUy = .ok aCx:=by kernel_rfl
theorem aS1:fE Try.prog aUI = .ok aBE:=by kernel_rfl
theorem aVi:fE Try.prog aS3 = .ok aBE:=by kernel_rfl
theorem aP2:fE Try.prog aPi = .ok aBo:=by kernel_rfl
theorem aM6:fE Try.prog aRB = .ok aBo:=by kernel_rfl
theorem aN6:fE Try.prog aQ7 = .ok aCV:=by kernel_rfl
theorem aPX:fE Try.prog aQg = .ok aCV:=by kernel_rfl
theorem aNx:fE Try.prog aMX = .ok aBD:=by kernel_rfl
theorem aQl:fE Try.prog aNU = .ok aBD:=by kernel_rfl
theorem aPw:fE Try.prog aNV = .ok aCu:=by kernel_rfl
theorem aOn:fE Try.prog aOU = .ok aCu:=by kernel_rfl
theorem aSa:fE Try.prog aPx = .ok aB4:=by kernel_rfl
theorem aOT:fE Try.prog aOk = .ok aB4:=by kernel_rfl
theorem aSh:fE Try.prog aPd = .ok aBU:=by kernel_rfl
theorem aQ1:fE Try.prog aOY = .ok aBU:=by kernel_rfl
theorem aQT:fE Try.prog aRd = .ok fM:=by kernel_rfl
theorem aM4:fE Try.prog aQW = .ok fM:=by kernel_rfl
theorem aOg:fE Try.prog aN0 = .ok fM:=by kernel_rfl
theorem aNl:fE Try.prog aQx = .ok fM:=by kernel_rfl
end Go.Proofs.Ytdldallkeheciaa
set_option maxRecDepth 100000
namespace Go.Proofs.Ytdldallkeheciaa
open Go Go.RowKit Sx Wi Lk
theorem aQC:fE Try.prog aN2 = .ok fM:=by kernel_rfl
theorem aRO:fE Try.prog aRq = .ok fM:=by kernel_rfl
theorem aOy:fE Try.prog aQK = .ok fM:=by kernel_rfl
theorem aSd:fE Try.prog aQf = .ok fM:=by kernel_rfl
theorem aQL:fE Try.prog aPs = .ok fM:=by kernel_rfl
end Go.Proofs.Ytdldallkeheciaa
