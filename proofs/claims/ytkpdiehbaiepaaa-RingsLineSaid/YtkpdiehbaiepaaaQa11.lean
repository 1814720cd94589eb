/- What is proved: the run of a function over its ways,and what is known on each. No condition. -/
import Derived.Test.YtkpdiehbaiepaaaQa1
set_option linter.unusedSimpArgs false
set_option linter.unusedVariables false
set_option maxRecDepth 100000
namespace Go.Proofs.Ytkpdiehbaiepaaa
open Go Go.RowKit Sx Wi
def cQ:E:=(.app 2 (.cons (.op .add (.op .add (.op .add (.op .add (.op .add (.op .add (.op .add (.op .add (.op .add (.op .add (.op .add (.op .add (.op .add (.op .add (.op .add (.op .add (.lit 0) (.op .mul (.var 0) (.op .mul (.op .mul (.op .mul (.op .sub (.op .shl (.lit 1) (.var 34)) (.var 32)) (.op .sub (.op .shl (.lit 1) (.var 34)) (.var 32))) (.op .sub (.op .shl (.lit 1) (.var 34)) (.var 32))) (.op .mul (.op .mul (.op .sub (.op .shl (.lit 1) (.var 34)) (.var 33)) (.op .sub (.op .shl (.lit 1) (.var 34)) (.var 33))) (.op .sub (.op .shl (.lit 1) (.var 34)) (.var 33)))))) (.op .mul (.var 2) (.op .mul (.op .mul (.op .mul (.op .sub (.op .shl (.lit 1) (.var 34)) (.var 32)) (.op .sub (.op .shl (.lit 1) (.var 34)) (.var 32))) (.op .sub (.op .shl (.lit 1) (.var 34)) (.var 32))) (.op .mul (.op .mul (.op .mul (.lit 3) (.op .sub (.op .shl (.lit 1) (.var 34)) (.var 33))) (.op .sub (.op .shl (.lit 1) (.var 34)) (.var 33))) (.var 33))))) (.op .mul (.var 4) (.op .mul (.op .mul (.op .mul (.op .sub (.op .shl (.lit 1) (.var 34)) (.var 32)) (.op .sub (.op .shl (.lit 1) (.var 34)) (.var 32))) (.op .sub (.op .shl (.lit 1) (.var 34)) (.var 32))) (.op .mul (.op .mul (.op .mul (.lit 3) (.op .sub (.op .shl (.lit 1) (.var 34)) (.var 33))) (.var 33)) (.var 33))))) (.op .mul (.var 6) (.op .mul (.op .mul (.op .mul (.op .sub (.op .shl (.lit 1) (.var 34)) (.var 32)) (.op .sub (.op .shl (.lit 1) (.var 34)) (.var 32))) (.op .sub (.op .shl (.lit 1) (.var 34)) (.var 32))) (.op .mul (.op .mul (.var 33) (.var 33)) (.var 33))))) (.op .mul (.var 8) (.op .mul (.op .mul (.op .mul (.op .mul (.lit 3) (.op .sub (.op .shl (.lit 1) (.var 34)) (.var 32))) (.op .sub (.op .shl (.lit 1) (.var 34)) (.var 32))) (.var 32)) (.op .mul (.op .mul (.op .sub (.op .shl (.lit 1) (.var 34)) (.var 33)) (.op .sub (.op .shl (.lit 1) (.var 34)) (.var 33))) (.op .sub (.op .shl (.lit 1) (.var 34)) (.var 33)))))) (.op .mul (.var 10) (.op .mul (.op .mul (.op .mul (.op .mul (.lit 3) (.op .sub (.op .shl (.lit 1) (.var 34)) (.var 32))) (.op .sub (.op .shl (.lit 1) (.var 34)) (.var 32))) (.var 32)) (.op .mul (.op .mul (.op .mul (.lit 3) (.op .sub (.op .shl (.lit 1) (.var 34)) (.var 33))) (.op .sub (.op .shl (.lit 1) (.var 34)) (.var 33))) (.var 33))))) (.op .mul (.var 12) (.op .mul (.op .mul (.op .mul (.op .mul (.lit 3) (.op .sub (.op .shl (.lit 1) (.var 34)) (.var 32))) (.op .sub (.op .shl (.lit 1) (.var 34)) (.var 32))) (.var 32)) (.op .mul (.op .mul (.op .mul (.lit 3) (.op .sub (.op .shl (.lit 1) (.var 34)) (.var 33))) (.var 33)) (.var 33))))) (.op .mul (.var 14) (.op .mul (.op .mul (.op .mul (.op .mul (.lit 3) (.op .sub (.op .shl (.lit 1) (.var 34)) (.var 32))) (.op .sub (.op .shl (.lit 1) (.var 34)) (.var 32))) (.var 32)) (.op .mul (.op .mul (.var 33) (.var 33)) (.var 33))))) (.op .mul (.var 16) (.op .mul (.op .mul (.op .mul (.op .mul (.lit 3) (.op .sub (.op .shl (.lit 1) (.var 34)) (.var 32))) (.var 32)) (.var 32)) (.op .mul (.op .mul (.op .sub (.op .shl (.lit 1) (.var 34)) (.var 33)) (.op .sub (.op .shl (.lit 1) (.var 34)) (.var 33))) (.op .sub (.op .shl (.lit 1) (.var 34)) (.var 33)))))) (.op .mul (.var 18) (.op .mul (.op .mul (.op .mul (.op .mul (.lit 3) (.op .sub (.op .shl (.lit 1) (.var 34)) (.var 32))) (.var 32)) (.var 32)) (.op .mul (.op .mul (.op .mul (.lit 3) (.op .sub (.op .shl (.lit 1) (.var 34)) (.var 33))) (.op .sub (.op .shl (.lit 1) (.var 34)) (.var 33))) (.var 33))))) (.op .mul (.var 20) (.op .mul (.op .mul (.op .mul (.op .mul (.lit 3) (.op .sub (.op .shl (.lit 1) (.var 34)) (.var 32))) (.var 32)) (.var 32)) (.op .mul (.op .mul (.op .mul (.lit 3) (.op .sub (.op .shl (.lit 1) (.var 34)) (.var 33))) (.var 33)) (.var 33))))) (.op .mul (.var 22) (.op .mul (.op .mul (.op .mul (.op .mul (.lit 3) (.op .sub (.op .shl (.lit 1) (.var 34)) (.var 32))) (.var 32)) (.var 32)) (.op .mul (.op .mul (.var 33) (.var 33)) (.var 33))))) (.op .mul (.var 24) (.op .mul (.op .mul (.op .mul (.var 32) (.var 32)) (.var 32)) (.op .mul (.op .mul (.op .sub (.op .shl (.lit 1) (.var 34)) (.var 33)) (.op .sub (.op .shl (.lit 1) (.var 34)) (.var 33))) (.op .sub (.op .shl (.lit 1) (.var 34)) (.var 33)))))) (.op .mul (.var 26) (.op .mul (.op .mul (.op .mul (.var 32) (.var 32)) (.var 32)) (.op .mul (.op .mul (.op .mul (.lit 3) (.op .sub (.op .shl (.lit 1) (.var 34)) (.var 33))) (.op .sub (.op .shl (.lit 1) (.var 34)) (.var 33))) (.var 33))))) (.op .mul (.var 28) (.op .mul (.op .mul (.op .mul (.var 32) (.var 32)) (.var 32)) (.op .mul (.op .mul (.op .mul (.lit 3) (.op .sub (.op .shl (.lit 1) (.var 34)) (.var 33))) (.var 33)) (.var 33))))) (.op .mul (.var 30) (.op .mul (.op .mul (.op .mul (.var 32) (.var 32)) (.var 32)) (.op .mul (.op .mul (.var 33) (.var 33)) (.var 33))))) (.cons (.op .shl (.lit 256) (.op .mul (.lit 6) (.var 34))) .nil)))
def cC:E:=(.app 2 (.cons (.op .add (.op .add (.op .add (.op .add (.op .add (.op .add (.op .add (.op .add (.op .add (.op .add (.op .add (.op .add (.op .add (.op .add (.op .add (.op .add (.lit 0) (.op .mul (.var 1) (.op .mul (.op .mul (.op .mul (.op .sub (.op .shl (.lit 1) (.var 34)) (.var 32)) (.op .sub (.op .shl (.lit 1) (.var 34)) (.var 32))) (.op .sub (.op .shl (.lit 1) (.var 34)) (.var 32))) (.op .mul (.op .mul (.op .sub (.op .shl (.lit 1) (.var 34)) (.var 33)) (.op .sub (.op .shl (.lit 1) (.var 34)) (.var 33))) (.op .sub (.op .shl (.lit 1) (.var 34)) (.var 33)))))) (.op .mul (.var 3) (.op .mul (.op .mul (.op .mul (.op .sub (.op .shl (.lit 1) (.var 34)) (.var 32)) (.op .sub (.op .shl (.lit 1) (.var 34)) (.var 32))) (.op .sub (.op .shl (.lit 1) (.var 34)) (.var 32))) (.op .mul (.op .mul (.op .mul (.lit 3) (.op .sub (.op .shl (.lit 1) (.var 34)) (.var 33))) (.op .sub (.op .shl (.lit 1) (.var 34)) (.var 33))) (.var 33))))) (.op .mul (.var 5) (.op .mul (.op .mul (.op .mul (.op .sub (.op .shl (.lit 1) (.var 34)) (.var 32)) (.op .sub (.op .shl (.lit 1) (.var 34)) (.var 32))) (.op .sub (.op .shl (.lit 1) (.var 34)) (.var 32))) (.op .mul (.op .mul (.op .mul (.lit 3) (.op .sub (.op .shl (.lit 1) (.var 34)) (.var 33))) (.var 33)) (.var 33))))) (.op .mul (.var 7) (.op .mul (.op .mul (.op .mul (.op .sub (.op .shl (.lit 1) (.var 34)) (.var 32)) (.op .sub (.op .shl (.lit 1) (.var 34)) (.var 32))) (.op .sub (.op .shl (.lit 1) (.var 34)) (.var 32))) (.op .mul (.op .mul (.var 33) (.var 33)) (.var 33))))) (.op .mul (.var 9) (.op .mul (.op .mul (.op .mul (.op .mul (.lit 3) (.op .sub (.op .shl (.lit 1) (.var 34)) (.var 32))) (.op .sub (.op .shl (.lit 1) (.var 34)) (.var 32))) (.var 32)) (.op .mul (.op .mul (.op .sub (.op .shl (.lit 1) (.var 34)) (.var 33)) (.op .sub (.op .shl (.lit 1) (.var 34)) (.var 33))) (.op .sub (.op .shl (.lit 1) (.var 34)) (.var 33)))))) (.op .mul (.var 11) (.op .mul (.op .mul (.op .mul (.op .mul (.lit 3) (.op .sub (.op .shl (.lit 1) (.var 34)) (.var 32))) (.op .sub (.op .shl (.lit 1) (.var 34)) (.var 32))) (.var 32)) (.op .mul (.op .mul (.op .mul (.lit 3) (.op .sub (.op .shl (.lit 1) (.var 34)) (.var 33))) (.op .sub (.op .shl (.lit 1) (.var 34)) (.var 33))) (.var 33))))) (.op .mul (.var 13) (.op .mul (.op .mul (.op .mul (.op .mul (.lit 3) (.op .sub (.op .shl (.lit 1) (.var 34)) (.var 32))) (.op .sub (.op .shl (.lit 1) (.var 34)) (.var 32))) (.var 32)) (.op .mul (.op .mul (.op .mul (.lit 3) (.op .sub (.op .shl (.lit 1) (.var 34)) (.var 33))) (.var 33)) (.var 33))))) (.op .mul (.var 15) (.op .mul (.op .mul (.op .mul (.op .mul (.lit 3) (.op .sub (.op .shl (.lit 1) (.var 34)) (.var 32))) (.op .sub (.op .shl (.lit 1) (.var 34)) (.var 32))) (.var 32)) (.op .mul (.op .mul (.var 33) (.var 33)) (.var 33))))) (.op .mul (.var 17) (.op .mul (.op .mul (.op .mul (.op .mul (.lit 3) (.op .sub (.op .shl (.lit 1) (.var 34)) (.var 32))) (.var 32)) (.var 32)) (.op .mul (.op .mul (.op .sub (.op .shl (.lit 1) (.var 34)) (.var 33)) (.op .sub (.op .shl (.lit 1) (.var 34)) (.var 33))) (.op .sub (.op .shl (.lit 1) (.var 34)) (.var 33)))))) (.op .mul (.var 19) (.op .mul (.op .mul (.op .mul (.op .mul (.lit 3) (.op .sub (.op .shl (.lit 1) (.var 34)) (.var 32))) (.var 32)) (.var 32)) (.op .mul (.op .mul (.op .mul (.lit 3) (.op .sub (.op .shl (.lit 1) (.var 34)) (.var 33))) (.op .sub (.op .shl (.lit 1) (.var 34)) (.var 33))) (.var 33))))) (.op .mul (.var 21) (.op .mul (.op .mul (.op .mul (.op .mul (.lit 3) (.op .sub (.op .shl (.lit 1) (.var 34)) (.var 32))) (.var 32)) (.var 32)) (.op .mul (.op .mul (.op .mul (.lit 3) (.op .sub (.op .shl (.lit 1) (.var 34)) (.var 33))) (.var 33)) (.var 33))))) (.op .mul (.var 23) (.op .mul (.op .mul (.op .mul (.op .mul (.lit 3) (.op .sub (.op .shl (.lit 1) (.var 34)) (.var 32))) (.var 32)) (.var 32)) (.op .mul (.op .mul (.var 33) (.var 33)) (.var 33))))) (.op .mul (.var 25) (.op .mul (.op .mul (.op .mul (.var 32) (.var 32)) (.var 32)) (.op .mul (.op .mul (.op .sub (.op .shl (.lit 1) (.var 34)) (.var 33)) (.op .sub (.op .shl (.lit 1) (.var 34)) (.var 33))) (.op .sub (.op .shl (.lit 1) (.var 34)) (.var 33)))))) (.op .mul (.var 27) (.op .mul (.op .mul (.op .mul (.var 32) (.var 32)) (.var 32)) (.op .mul (.op .mul (.op .mul (.lit 3) (.op .sub (.op .shl (.lit 1) (.var 34)) (.var 33))) (.op .sub (.op .shl (.lit 1) (.var 34)) (.var 33))) (.var 33))))) (.op .mul (.var 29) (.op .mul (.op .mul (.op .mul (.var 32) (.var 32)) (.var 32)) (.op .mul (.op .mul (.op .mul (.lit 3) (.op .sub (.op .shl (.lit 1) (.var 34)) (.var 33))) (.var 33)) (.var 33))))) (.op .mul (.var 31) (.op .mul (.op .mul (.op .mul (.var 32) (.var 32)) (.var 32)) (.op .mul (.op .mul (.var 33) (.var 33)) (.var 33))))) (.cons (.op .shl (.lit 256) (.op .mul (.lit 6) (.var 34))) .nil)))
def eL (P:Program) (fs:List B):Res SV:=bK G GI [zzI,zzI,zzI,zzI,zzI,zzI,zzI,zzI,zzI,zzI,zzI,zzI,zzI,zzI,zzI,zzI,zzI,zzI,zzI,zzI,zzI,zzI,zzI,zzI,zzI,zzI,zzI,zzI,zzI,zzI,zzI,zzI,zzI,zzI,zzI] fs (fun X=>gU P X GB aPT 8000 23 [(.agg zzx),(.int .i64 (.var 32)),(.int .i64 (.var 33)),(.int .i64 (.var 34))])
def aZU:List B:=[]
def aZ5:B:=(.cmp .le (.lit 0) (.var 34))
def bAa:List B:=aH aZ5++aZU
def aZJ:B:=(.cmp .le (.var 34) (.lit 6))
def aZK:List B:=aH aZJ++bAa
def bAo:B:=(.cmp .le (.lit 0) (.var 32))
def bAn:List B:=aH bAo++aZK
def bAk:B:=(.cmp .lt (.op .shl (.lit 1) (.var 34)) (.var 32))
def bDD:List B:=aH bAk++bAn
def aZ4:List B:=aH (B.neg bAk)++bAn
def bAh:B:=(.cmp .le (.lit 0) (.var 33))
def aZ0:List B:=aH bAh++aZ4
def aZ6:B:=(.cmp .lt (.op .shl (.lit 1) (.var 34)) (.var 33))
def bDp:List B:=aH aZ6++aZ0
def aZX:List B:=aH (B.neg aZ6)++aZ0
def aZO:B:=(.cmp .lt (.lit 1099511627776) (.op .max (.op .max (.op .max (.var 0) (.wrap .i64 (.op .sub (.lit 0) (.var 0)))) (.var 1)) (.wrap .i64 (.op .sub (.lit 0) (.var 1)))))
def bDV:List B:=aH aZO++aZX
def aT9:List B:=aH (B.neg aZO)++aZX
def aVo:B:=(.cmp .lt (.op .min (.var 0) (.var 1)) (.lit (-1099511627776)))
def bBh:List B:=aH aVo++aT9
def aOX:List B:=aH (B.neg aVo)++aT9
def aT0:B:=(.cmp .lt (.lit 1099511627776) (.op .max (.op .max (.op .max (.var 2) (.wrap .i64 (.op .sub (.lit 0) (.var 2)))) (.var 3)) (.wrap .i64 (.op .sub (.lit 0) (.var 3)))))
def bCa:List B:=aH aT0++aOX
def aQ1:List B:=aH (B.neg aT0)++aOX
def aUJ:B:=(.cmp .lt (.op .min (.var 2) (.var 3)) (.lit (-1099511627776)))
def bDl:List B:=aH aUJ++aQ1
def aU0:List B:=aH (B.neg aUJ)++aQ1
def aTO:B:=(.cmp .lt (.lit 1099511627776) (.op .max (.op .max (.op .max (.var 4) (.wrap .i64 (.op .sub (.lit 0) (.var 4)))) (.var 5)) (.wrap .i64 (.op .sub (.lit 0) (.var 5)))))
def bCq:List B:=aH aTO++aU0
def aQv:List B:=aH (B.neg aTO)++aU0
def aPP:B:=(.cmp .lt (.op .min (.var 4) (.var 5)) (.lit (-1099511627776)))
def bCV:List B:=aH aPP++aQv
def aSA:List B:=aH (B.neg aPP)++aQv
def aT4:B:=(.cmp .lt (.lit 1099511627776) (.op .max (.op .max (.op .max (.var 6) (.wrap .i64 (.op .sub (.lit 0) (.var 6)))) (.var 7)) (.wrap .i64 (.op .sub (.lit 0) (.var 7)))))
def bDk:List B:=aH aT4++aSA
def aOO:List B:=aH (B.neg aT4)++aSA
def aRK:B:=(.cmp .lt (.op .min (.var 6) (.var 7)) (.lit (-1099511627776)))
def bCQ:List B:=aH aRK++aOO
def aS4:List B:=aH (B.neg aRK)++aOO
def aOR:B:=(.cmp .lt (.lit 1099511627776) (.op .max (.op .max (.op .max (.var 8) (.wrap .i64 (.op .sub (.lit 0) (.var 8)))) (.var 9)) (.wrap .i64 (.op .sub (.lit 0) (.var 9)))))
def bBt:List B:=aH aOR++aS4
def aVB:List B:=aH (B.neg aOR)++aS4
def aRB:B:=(.cmp .lt (.op .min (.var 8) (.var 9)) (.lit (-1099511627776)))
def bBA:List B:=aH aRB++aVB
def aR4:List B:=aH (B.neg aRB)++aVB
def aUW:B:=(.cmp .lt (.lit 1099511627776) (.op .max (.op .max (.op .max (.var 10) (.wrap .i64 (.op .sub (.lit 0) (.var 10)))) (.var 11)) (.wrap .i64 (.op .sub (.lit 0) (.var 11)))))
def bBK:List B:=aH aUW++aR4
def aVq:List B:=aH (B.neg aUW)++aR4
def aQo:B:=(.cmp .lt (.op .min (.var 10) (.var 11)) (.lit (-1099511627776)))
def bCw:List B:=aH aQo++aVq
def aU9:List B:=aH (B.neg aQo)++aVq
def aVs:B:=(.cmp .lt (.lit 1099511627776) (.op .max (.op .max (.op .max (.var 12) (.wrap .i64 (.op .sub (.lit 0) (.var 12)))) (.var 13)) (.wrap .i64 (.op .sub (.lit 0) (.var 13)))))
def bDi:List B:=aH aVs++aU9
def aSE:List B:=aH (B.neg aVs)++aU9
def aU5:B:=(.cmp .lt (.op .min (.var 12) (.var 13)) (.lit (-1099511627776)))
def bBQ:List B:=aH aU5++aSE
def aSD:List B:=aH (B.neg aU5)++aSE
def aRe:B:=(.cmp .lt (.lit 1099511627776) (.op .max (.op .max (.op .max (.var 14) (.wrap .i64 (.op .sub (.lit 0) (.var 14)))) (.var 15)) (.wrap .i64 (.op .sub (.lit 0) (.var 15)))))
def bBu:List B:=aH aRe++aSD
def aUq:List B:=aH (B.neg aRe)++aSD
def aP6:B:=(.cmp .lt (.op .min (.var 14) (.var 15)) (.lit (-1099511627776)))
def bB1:List B:=aH aP6++aUq
def aS1:List B:=aH (B.neg aP6)++aUq
def aVO:B:=(.cmp .lt (.lit 1099511627776) (.op .max (.op .max (.op .max (.var 16) (.wrap .i64 (.op .sub (.lit 0) (.var 16)))) (.var 17)) (.wrap .i64 (.op .sub (.lit 0) (.var 17)))))
def bA4:List B:=aH aVO++aS1
def aTX:List B:=aH (B.neg aVO)++aS1
def aVc:B:=(.cmp .lt (.op .min (.var 16) (.var 17)) (.lit (-1099511627776)))
def bB7:List B:=aH aVc++aTX
def aQC:List B:=aH (B.neg aVc)++aTX
def aRh:B:=(.cmp .lt (.lit 1099511627776) (.op .max (.op .max (.op .max (.var 18) (.wrap .i64 (.op .sub (.lit 0) (.var 18)))) (.var 19)) (.wrap .i64 (.op .sub (.lit 0) (.var 19)))))
def bC8:List B:=aH aRh++aQC
def aTP:List B:=aH (B.neg aRh)++aQC
def aUH:B:=(.cmp .lt (.op .min (.var 18) (.var 19)) (.lit (-1099511627776)))
def bA9:List B:=aH aUH++aTP
def aUZ:List B:=aH (B.neg aUH)++aTP
def aTb:B:=(.cmp .lt (.lit 1099511627776) (.op .max (.op .max (.op .max (.var 20) (.wrap .i64 (.op .sub (.lit 0) (.var 20)))) (.var 21)) (.wrap .i64 (.op .sub (.lit 0) (.var 21)))))
def bCY:List B:=aH aTb++aUZ
def aSb:List B:=aH (B.neg aTb)++aUZ
def aO6:B:=(.cmp .lt (.op .min (.var 20) (.var 21)) (.lit (-1099511627776)))
def bCC:List B:=aH aO6++aSb
def aRb:List B:=aH (B.neg aO6)++aSb
def aPG:B:=(.cmp .lt (.lit 1099511627776) (.op .max (.op .max (.op .max (.var 22) (.wrap .i64 (.op .sub (.lit 0) (.var 22)))) (.var 23)) (.wrap .i64 (.op .sub (.lit 0) (.var 23)))))
def bBk:List B:=aH aPG++aRb
def aVC:List B:=aH (B.neg aPG)++aRb
def aPM:B:=(.cmp .lt (.op .min (.var 22) (.var 23)) (.lit (-1099511627776)))
def bAN:List B:=aH aPM++aVC
def aPE:List B:=aH (B.neg aPM)++aVC
def aTw:B:=(.cmp .lt (.lit 1099511627776) (.op .max (.op .max (.op .max (.var 24) (.wrap .i64 (.op .sub (.lit 0) (.var 24)))) (.var 25)) (.wrap .i64 (.op .sub (.lit 0) (.var 25)))))
def bBc:List B:=aH aTw++aPE
def aVa:List B:=aH (B.neg aTw)++aPE
def aRV:B:=(.cmp .lt (.op .min (.var 24) (.var 25)) (.lit (-1099511627776)))
def bAy:List B:=aH aRV++aVa
def aVw:List B:=aH (B.neg aRV)++aVa
def aSo:B:=(.cmp .lt (.lit 1099511627776) (.op .max (.op .max (.op .max (.var 26) (.wrap .i64 (.op .sub (.lit 0) (.var 26)))) (.var 27)) (.wrap .i64 (.op .sub (.lit 0) (.var 27)))))
def bB4:List B:=aH aSo++aVw
def aRa:List B:=aH (B.neg aSo)++aVw
def aUK:B:=(.cmp .lt (.op .min (.var 26) (.var 27)) (.lit (-1099511627776)))
def bCo:List B:=aH aUK++aRa
def aRq:List B:=aH (B.neg aUK)++aRa
def aUV:B:=(.cmp .lt (.lit 1099511627776) (.op .max (.op .max (.op .max (.var 28) (.wrap .i64 (.op .sub (.lit 0) (.var 28)))) (.var 29)) (.wrap .i64 (.op .sub (.lit 0) (.var 29)))))
def bCd:List B:=aH aUV++aRq
def aV0:List B:=aH (B.neg aUV)++aRq
def aO0:B:=(.cmp .lt (.op .min (.var 28) (.var 29)) (.lit (-1099511627776)))
def bCX:List B:=aH aO0++aV0
def aUC:List B:=aH (B.neg aO0)++aV0
def aTq:B:=(.cmp .lt (.lit 1099511627776) (.op .max (.op .max (.op .max (.var 30) (.wrap .i64 (.op .sub (.lit 0) (.var 30)))) (.var 31)) (.wrap .i64 (.op .sub (.lit 0) (.var 31)))))
def bBT:List B:=aH aTq++aUC
def aRw:List B:=aH (B.neg aTq)++aUC
def aSO:B:=(.cmp .lt (.op .min (.var 30) (.var 31)) (.lit (-1099511627776)))
def bBy:List B:=aH aSO++aRw
def aRy:List B:=aH (B.neg aSO)++aRw
def aT8:B:=(.cmp .le (.lit (-9223372036854775808)) cQ)
def aPw:List B:=aH aT8++aRy
def aPq:B:=(.cmp .le cQ (.lit 9223372036854775807))
def aRH:List B:=aH aPq++aPw
def aQj:B:=(.cmp .le (.lit (-9223372036854775808)) cC)
def aQJ:List B:=aH aQj++aRH
def aQK:B:=(.cmp .le cC (.lit 9223372036854775807))
def bBG:List B:=aH aQK++aQJ
def bBX:List B:=aH (B.neg aQK)++aQJ
def bCe:List B:=aH (B.neg aQj)++aRH
def aUx:List B:=aH (B.neg aPq)++aPw
def aSf:B:=(.cmp .le (.lit (-9223372036854775808)) cC)
def aTc:List B:=aH aSf++aUx
def aRm:B:=(.cmp .le cC (.lit 9223372036854775807))
def bCO:List B:=aH aRm++aTc
def bBL:List B:=aH (B.neg aRm)++aTc
def bB8:List B:=aH (B.neg aSf)++aUx
def aUT:List B:=aH (B.neg aT8)++aRy
def aUj:B:=(.cmp .le (.lit (-9223372036854775808)) cC)
def aTm:List B:=aH aUj++aUT
def aU1:B:=(.cmp .le cC (.lit 9223372036854775807))
def bBb:List B:=aH aU1++aTm
def bAz:List B:=aH (B.neg aU1)++aTm
def bCm:List B:=aH (B.neg aUj)++aUT
def bAC:List B:=aH (B.neg bAh)++aZ4
def bAY:List B:=aH (B.neg bAo)++aZK
def bCP:List B:=aH (B.neg aZJ)++bAa
def bBW:List B:=aH (B.neg aZ5)++aZU
set_option maxRecDepth 100000
open Go Go.RowKit Sx Wi
theorem bDZ:eL Try.prog bDD = .ok (.tuple [(.agg [(.int .i64 (.lit 0)),(.int .i64 (.lit 0))]),(.int .i64 (.lit 1))]):=by kernel_rfl
theorem bDB:eL Try.prog bDp = .ok (.tuple [(.agg [(.int .i64 (.lit 0)),(.int .i64 (.lit 0))]),(.int .i64 (.lit 1))]):=by kernel_rfl
theorem bDs:eL Try.prog bDV = .ok (.tuple [(.agg [(.int .i64 (.lit 0)),(.int .i64 (.lit 0))]),(.int .i64 (.lit 1))]):=by kernel_rfl
theorem bBj:eL Try.prog bBh = .ok (.tuple [(.agg [(.int .i64 (.lit 0)),(.int .i64 (.lit 0))]),(.int .i64 (.lit 1))]):=by kernel_rfl
theorem bAu:eL Try.prog bCa = .ok (.tuple [(.agg [(.int .i64 (.lit 0)),(.int .i64 (.lit 0))]),(.int .i64 (.lit 1))]):=by kernel_rfl
theorem bBZ:eL Try.prog bDl = .ok (.tuple [(.agg [(.int .i64 (.lit 0)),(.int .i64 (.lit 0))]),(.int .i64 (.lit 1))]):=by kernel_rfl
set_option maxRecDepth 100000
open Go Go.RowKit Sx Wi
theorem bDf:eL Try.prog bCq = .ok (.tuple [(.agg [(.int .i64 (.lit 0)),(.int .i64 (.lit 0))]),(.int .i64 (.lit 1))]):=by kernel_rfl
theorem bBH:eL Try.prog bCV = .ok (.tuple [(.agg [(.int .i64 (.lit 0)),(.int .i64 (.lit 0))]),(.int .i64 (.lit 1))]):=by kernel_rfl
theorem bAE:eL Try.prog bDk = .ok (.tuple [(.agg [(.int .i64 (.lit 0)),(.int .i64 (.lit 0))]),(.int .i64 (.lit 1))]):=by kernel_rfl
theorem bAt:eL Try.prog bCQ = .ok (.tuple [(.agg [(.int .i64 (.lit 0)),(.int .i64 (.lit 0))]),(.int .i64 (.lit 1))]):=by kernel_rfl
theorem bAr:eL Try.prog bBt = .ok (.tuple [(.agg [(.int .i64 (.lit 0)),(.int .i64 (.lit 0))]),(.int .i64 (.lit 1))]):=by kernel_rfl
theorem bCG:eL Try.prog bBA = .ok (.tuple [(.agg [(.int .i64 (.lit 0)),(.int .i64 (.lit 0))]),(.int .i64 (.lit 1))]):=by kernel_rfl
set_option maxRecDepth 100000
open Go Go.RowKit Sx Wi
theorem bAX:eL Try.prog bBK = .ok (.tuple [(.agg [(.int .i64 (.lit 0)),(.int .i64 (.lit 0))]),(.int .i64 (.lit 1))]):=by kernel_rfl
theorem bBD:eL Try.prog bCw = .ok (.tuple [(.agg [(.int .i64 (.lit 0)),(.int .i64 (.lit 0))]),(.int .i64 (.lit 1))]):=by kernel_rfl
theorem bCh:eL Try.prog bDi = .ok (.tuple [(.agg [(.int .i64 (.lit 0)),(.int .i64 (.lit 0))]),(.int .i64 (.lit 1))]):=by kernel_rfl
theorem bBm:eL Try.prog bBQ = .ok (.tuple [(.agg [(.int .i64 (.lit 0)),(.int .i64 (.lit 0))]),(.int .i64 (.lit 1))]):=by kernel_rfl
theorem bCj:eL Try.prog bBu = .ok (.tuple [(.agg [(.int .i64 (.lit 0)),(.int .i64 (.lit 0))]),(.int .i64 (.lit 1))]):=by kernel_rfl
theorem bCM:eL Try.prog bB1 = .ok (.tuple [(.agg [(.int .i64 (.lit 0)),(.int .i64 (.lit 0))]),(.int .i64 (.lit 1))]):=by kernel_rfl
set_option maxRecDepth 100000
open Go Go.RowKit Sx Wi
theorem bBi:eL Try.prog bA4 = .ok (.tuple [(.agg [(.int .i64 (.lit 0)),(.int .i64 (.lit 0))]),(.int .i64 (.lit 1))]):=by kernel_rfl
theorem bCL:eL Try.prog bB7 = .ok (.tuple [(.agg [(.int .i64 (.lit 0)),(.int .i64 (.lit 0))]),(.int .i64 (.lit 1))]):=by kernel_rfl
theorem bDe:eL Try.prog bC8 = .ok (.tuple [(.agg [(.int .i64 (.lit 0)),(.int .i64 (.lit 0))]),(.int .i64 (.lit 1))]):=by kernel_rfl
theorem bAR:eL Try.prog bA9 = .ok (.tuple [(.agg [(.int .i64 (.lit 0)),(.int .i64 (.lit 0))]),(.int .i64 (.lit 1))]):=by kernel_rfl
theorem bCF:eL Try.prog bCY = .ok (.tuple [(.agg [(.int .i64 (.lit 0)),(.int .i64 (.lit 0))]),(.int .i64 (.lit 1))]):=by kernel_rfl
theorem bDg:eL Try.prog bCC = .ok (.tuple [(.agg [(.int .i64 (.lit 0)),(.int .i64 (.lit 0))]),(.int .i64 (.lit 1))]):=by kernel_rfl
set_option maxRecDepth 100000
open Go Go.RowKit Sx Wi
theorem bAW:eL Try.prog bBk = .ok (.tuple [(.agg [(.int .i64 (.lit 0)),(.int .i64 (.lit 0))]),(.int .i64 (.lit 1))]):=by kernel_rfl
theorem bBf:eL Try.prog bAN = .ok (.tuple [(.agg [(.int .i64 (.lit 0)),(.int .i64 (.lit 0))]),(.int .i64 (.lit 1))]):=by kernel_rfl
theorem bB0:eL Try.prog bBc = .ok (.tuple [(.agg [(.int .i64 (.lit 0)),(.int .i64 (.lit 0))]),(.int .i64 (.lit 1))]):=by kernel_rfl
theorem bAs:eL Try.prog bAy = .ok (.tuple [(.agg [(.int .i64 (.lit 0)),(.int .i64 (.lit 0))]),(.int .i64 (.lit 1))]):=by kernel_rfl
theorem bCE:eL Try.prog bB4 = .ok (.tuple [(.agg [(.int .i64 (.lit 0)),(.int .i64 (.lit 0))]),(.int .i64 (.lit 1))]):=by kernel_rfl
theorem bB5:eL Try.prog bCo = .ok (.tuple [(.agg [(.int .i64 (.lit 0)),(.int .i64 (.lit 0))]),(.int .i64 (.lit 1))]):=by kernel_rfl
set_option maxRecDepth 100000
open Go Go.RowKit Sx Wi
theorem bBN:eL Try.prog bCd = .ok (.tuple [(.agg [(.int .i64 (.lit 0)),(.int .i64 (.lit 0))]),(.int .i64 (.lit 1))]):=by kernel_rfl
theorem bBa:eL Try.prog bCX = .ok (.tuple [(.agg [(.int .i64 (.lit 0)),(.int .i64 (.lit 0))]),(.int .i64 (.lit 1))]):=by kernel_rfl
theorem bAA:eL Try.prog bBT = .ok (.tuple [(.agg [(.int .i64 (.lit 0)),(.int .i64 (.lit 0))]),(.int .i64 (.lit 1))]):=by kernel_rfl
theorem bC2:eL Try.prog bBy = .ok (.tuple [(.agg [(.int .i64 (.lit 0)),(.int .i64 (.lit 0))]),(.int .i64 (.lit 1))]):=by kernel_rfl
theorem bDb:eL Try.prog bBG = .ok (.tuple [(.agg [(.int .i64 cQ),(.int .i64 cC)]),(.int .i64 (.lit 0))]):=by kernel_rfl
theorem bCp:eL Try.prog bBX = .ok (.tuple [(.agg [(.int .i64 cQ),(.int .i64 (.lit 0))]),(.int .i64 (.lit 0))]):=by kernel_rfl
set_option maxRecDepth 100000
open Go Go.RowKit Sx Wi
theorem bBs:eL Try.prog bCe = .ok (.tuple [(.agg [(.int .i64 cQ),(.int .i64 (.lit 0))]),(.int .i64 (.lit 0))]):=by kernel_rfl
theorem bC9:eL Try.prog bCO = .ok (.tuple [(.agg [(.int .i64 (.lit 0)),(.int .i64 cC)]),(.int .i64 (.lit 0))]):=by kernel_rfl
theorem bCN:eL Try.prog bBL = .ok (.tuple [(.agg [(.int .i64 (.lit 0)),(.int .i64 (.lit 0))]),(.int .i64 (.lit 0))]):=by kernel_rfl
theorem bCy:eL Try.prog bB8 = .ok (.tuple [(.agg [(.int .i64 (.lit 0)),(.int .i64 (.lit 0))]),(.int .i64 (.lit 0))]):=by kernel_rfl
theorem bAw:eL Try.prog bBb = .ok (.tuple [(.agg [(.int .i64 (.lit 0)),(.int .i64 cC)]),(.int .i64 (.lit 0))]):=by kernel_rfl
theorem bCD:eL Try.prog bAz = .ok (.tuple [(.agg [(.int .i64 (.lit 0)),(.int .i64 (.lit 0))]),(.int .i64 (.lit 0))]):=by kernel_rfl
set_option maxRecDepth 100000
open Go Go.RowKit Sx Wi
theorem bCx:eL Try.prog bCm = .ok (.tuple [(.agg [(.int .i64 (.lit 0)),(.int .i64 (.lit 0))]),(.int .i64 (.lit 0))]):=by kernel_rfl
theorem bC4:eL Try.prog bAC = .ok (.tuple [(.agg [(.int .i64 (.lit 0)),(.int .i64 (.lit 0))]),(.int .i64 (.lit 1))]):=by kernel_rfl
theorem bBp:eL Try.prog bAY = .ok (.tuple [(.agg [(.int .i64 (.lit 0)),(.int .i64 (.lit 0))]),(.int .i64 (.lit 1))]):=by kernel_rfl
theorem bBP:eL Try.prog bCP = .ok (.tuple [(.agg [(.int .i64 (.lit 0)),(.int .i64 (.lit 0))]),(.int .i64 (.lit 1))]):=by kernel_rfl
theorem bBr:eL Try.prog bBW = .ok (.tuple [(.agg [(.int .i64 (.lit 0)),(.int .i64 (.lit 0))]),(.int .i64 (.lit 1))]):=by kernel_rfl
end Go.Proofs.Ytkpdiehbaiepaaa
