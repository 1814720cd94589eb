/- What is proved: the run of a function over its ways,and what is known on each. No condition. -/
import Derived.Test.YtkpdiehbaiepaaaQa3
set_option linter.unusedSimpArgs false
set_option linter.unusedVariables false
set_option maxRecDepth 100000
namespace Go.Proofs.Ytkpdiehbaiepaaa
open Go Go.RowKit Sx Wi
def uD (P:Program) (fs:List B):Res SV:=rW P fs
def yU:List B:=[]
def bK:B:=(.cmp .lt (.var 1) (.op .add (.var 0) (.lit 24)))
def aFY:List B:=aK bK++yU
def bP:B:=(.cmp .eq (.app 83 (.cons (zz2 (.op .add (.var 0) (.lit 24))) (.cons (.var 1) (.cons (.lit 0) .nil)))) (.lit 0))
def aF1:List B:=aK bP++aFY
def bR:B:=(.cmp .eq (.app 83 (.cons (zz2 (.op .add (.var 0) (.lit 24))) (.cons (.var 1) (.cons (.lit 1) .nil)))) (.lit 0))
def aGB:List B:=aK bR++aF1
def bW:B:=(.cmp .eq (.app 83 (.cons (zz2 (.op .add (.var 0) (.lit 24))) (.cons (.var 1) (.cons (.lit 2) .nil)))) (.lit 0))
def aF4:List B:=aK bW++aGB
def cC:B:=(.cmp .eq (.app 83 (.cons (zz2 (.op .add (.var 0) (.lit 24))) (.cons (.var 1) (.cons (.lit 3) .nil)))) (.lit 0))
def aEI:List B:=aK cC++aF4
def cE:B:=(.cmp .eq (.app 83 (.cons (zz2 (.op .add (.var 0) (.lit 24))) (.cons (.var 1) (.cons (.lit 4) .nil)))) (.lit 0))
def aFp:List B:=aK cE++aEI
def cL:B:=(.cmp .eq (.app 83 (.cons (zz2 (.op .add (.var 0) (.lit 24))) (.cons (.var 1) (.cons (.lit 5) .nil)))) (.lit 0))
def aG4:List B:=aK cL++aFp
def cO:B:=(.cmp .eq (.app 82 (.cons (zz2 (.op .add (.var 0) (.lit 24))) (.cons (.var 1) (.cons (.lit 6) .nil)))) (.lit 2))
def aFy:List B:=aK cO++aG4
def cU:B:=(.cmp .eq (.app 82 (.cons (zz2 (.op .add (.var 0) (.lit 24))) (.cons (.var 1) (.cons (.lit 7) .nil)))) (.lit 0))
def aGy:List B:=aK cU++aFy
def dA:B:=(.cmp .eq (.app 82 (.cons (zz2 (.op .add (.var 0) (.lit 24))) (.cons (.var 1) (.cons (.lit 8) .nil)))) (.lit 0))
def aDD:List B:=aK dA++aGy
def cT:B:=(.cmp .eq (.app 82 (.cons (zz2 (.op .add (.var 0) (.lit 24))) (.cons (.var 1) (.cons (.lit 9) .nil)))) (.lit 0))
def aDd:List B:=aK cT++aDD
def cX:B:=(.cmp .eq (.app 82 (.cons (zz2 (.op .add (.var 0) (.lit 24))) (.cons (.var 1) (.cons (.lit 10) .nil)))) (.lit 0))
def aCA:List B:=aK cX++aDd
def dH:B:=(.cmp .eq (.app 82 (.cons (zz2 (.op .add (.var 0) (.lit 24))) (.cons (.var 1) (.cons (.lit 11) .nil)))) (.lit 0))
def uY:List B:=aK dH++aCA
def dF:B:=(.cmp .lt (.var 1) (.var 0))
def aCD:List B:=aK dF++uY
def dV:B:=(.cmp .eq (.app 83 (.cons (zz2 (.var 0)) (.cons (.var 1) (.cons (.lit 0) .nil)))) (.lit 0))
def aDo:List B:=aK dV++aCD
def eC:B:=(.cmp .eq (.app 83 (.cons (zz2 (.var 0)) (.cons (.var 1) (.cons (.lit 1) .nil)))) (.lit 0))
def aEi:List B:=aK eC++aDo
def eP:B:=(.cmp .eq (.app 83 (.cons (zz2 (.var 0)) (.cons (.var 1) (.cons (.lit 2) .nil)))) (.lit 0))
def aCr:List B:=aK eP++aEi
def eY:B:=(.cmp .eq (.app 83 (.cons (zz2 (.var 0)) (.cons (.var 1) (.cons (.lit 3) .nil)))) (.lit 0))
def aEo:List B:=aK eY++aCr
def fK:B:=(.cmp .eq (.app 83 (.cons (zz2 (.var 0)) (.cons (.var 1) (.cons (.lit 4) .nil)))) (.lit 0))
def aCq:List B:=aK fK++aEo
def fU:B:=(.cmp .eq (.app 83 (.cons (zz2 (.var 0)) (.cons (.var 1) (.cons (.lit 5) .nil)))) (.lit 0))
def aCs:List B:=aK fU++aCq
def gH:B:=(.cmp .eq (.app 82 (.cons (zz2 (.var 0)) (.cons (.var 1) (.cons (.lit 6) .nil)))) (.lit 2))
def aEa:List B:=aK gH++aCs
def iH:B:=(.cmp .eq (.app 82 (.cons (zz2 (.var 0)) (.cons (.var 1) (.cons (.lit 7) .nil)))) (.lit 0))
def aEn:List B:=aK iH++aEa
def iU:B:=(.cmp .eq (.app 82 (.cons (zz2 (.var 0)) (.cons (.var 1) (.cons (.lit 8) .nil)))) (.lit 0))
def aDZ:List B:=aK iU++aEn
def kB:B:=(.cmp .eq (.app 82 (.cons (zz2 (.var 0)) (.cons (.var 1) (.cons (.lit 9) .nil)))) (.lit 0))
def aEw:List B:=aK kB++aDZ
def lH:B:=(.cmp .eq (.app 82 (.cons (zz2 (.var 0)) (.cons (.var 1) (.cons (.lit 10) .nil)))) (.lit 0))
def aDw:List B:=aK lH++aEw
def mX:B:=(.cmp .eq (.app 82 (.cons (zz2 (.var 0)) (.cons (.var 1) (.cons (.lit 11) .nil)))) (.lit 0))
def aEj:List B:=aK mX++aDw
def aEl:List B:=aK (B.neg dF)++uY
def aCo:List B:=aK (B.neg bK)++yU
theorem aDl:uD Try.prog aEj = .ok (.agg [(.int .i64 (.op .add (.var 1) (.lit 1))),(.int .i64 (.var 1))]):=by kernel_rfl
theorem aEd:uD Try.prog aEl = .ok (.agg [(.int .i64 (.op .add (.var 1) (.lit 1))),(.int .i64 (.var 1))]):=by kernel_rfl
theorem aEq:uD Try.prog aCo = .ok (.tuple [(.agg []),(.bool (.lit true))]):=by kernel_rfl
set_option maxRecDepth 100000
open Go Go.RowKit Sx Wi
def aL9 (P:Program) (fs:List B):Res SV:=aFa P fs
def aHU:List B:=[]
theorem aIL:aL9 Try.prog aHU = .ok (.tuple [(.agg []),(.bool (.lit true))]):=by kernel_rfl
set_option maxRecDepth 100000
open Go Go.RowKit Sx Wi
def aBq (P:Program) (fs:List B):Res SV:=rL P fs
def xP:List B:=[]
def dR:B:=(.cmp .lt (.var 0) (.lit 24))
def aF6:List B:=aK dR++xP
def eH:B:=(.cmp .eq (.app 83 (.cons (zz1 (.lit 24)) (.cons (.var 0) (.cons (.lit 0) .nil)))) (.lit 0))
def aEK:List B:=aK eH++aF6
def eS:B:=(.cmp .eq (.app 83 (.cons (zz1 (.lit 24)) (.cons (.var 0) (.cons (.lit 1) .nil)))) (.lit 0))
def aGn:List B:=aK eS++aEK
def fA:B:=(.cmp .eq (.app 83 (.cons (zz1 (.lit 24)) (.cons (.var 0) (.cons (.lit 2) .nil)))) (.lit 0))
def aFB:List B:=aK fA++aGn
def fN:B:=(.cmp .eq (.app 83 (.cons (zz1 (.lit 24)) (.cons (.var 0) (.cons (.lit 3) .nil)))) (.lit 0))
def aF7:List B:=aK fN++aFB
def fY:B:=(.cmp .eq (.app 83 (.cons (zz1 (.lit 24)) (.cons (.var 0) (.cons (.lit 4) .nil)))) (.lit 0))
def aGP:List B:=aK fY++aF7
def gO:B:=(.cmp .eq (.app 83 (.cons (zz1 (.lit 24)) (.cons (.var 0) (.cons (.lit 5) .nil)))) (.lit 0))
def aFg:List B:=aK gO++aGP
def iJ:B:=(.cmp .eq (.app 82 (.cons (zz1 (.lit 24)) (.cons (.var 0) (.cons (.lit 6) .nil)))) (.lit 1))
def aGp:List B:=aK iJ++aFg
def iQ:B:=(.cmp .eq (.app 82 (.cons (zz1 (.lit 24)) (.cons (.var 0) (.cons (.lit 7) .nil)))) (.lit 0))
def aE5:List B:=aK iQ++aGp
def jJ:B:=(.cmp .eq (.app 82 (.cons (zz1 (.lit 24)) (.cons (.var 0) (.cons (.lit 8) .nil)))) (.lit 0))
def aEu:List B:=aK jJ++aE5
def jZ:B:=(.cmp .eq (.app 82 (.cons (zz1 (.lit 24)) (.cons (.var 0) (.cons (.lit 9) .nil)))) (.lit 0))
def aCV:List B:=aK jZ++aEu
def lD:B:=(.cmp .eq (.app 82 (.cons (zz1 (.lit 24)) (.cons (.var 0) (.cons (.lit 10) .nil)))) (.lit 0))
def aDx:List B:=aK lD++aCV
def mW:B:=(.cmp .eq (.app 82 (.cons (zz1 (.lit 24)) (.cons (.var 0) (.cons (.lit 11) .nil)))) (.lit 0))
def aDO:List B:=aK mW++aDx
def aEx:List B:=aK (B.neg dR)++xP
theorem aCt:aBq Try.prog aDO = .ok (.agg [(.int .i64 (.op .add (.var 0) (.lit 1))),(.int .i64 (.var 0))]):=by kernel_rfl
theorem aDF:aBq Try.prog aEx = .ok (.tuple [(.agg []),(.bool (.lit true))]):=by kernel_rfl
set_option maxRecDepth 100000
open Go Go.RowKit Sx Wi
def aBi (P:Program) (fs:List B):Res SV:=qU P fs
def xO:List B:=[]
def dT:B:=(.cmp .lt (.var 0) (.lit 24))
def aEW:List B:=aK dT++xO
def eI:B:=(.cmp .eq (.app 83 (.cons (zz2 (.lit 24)) (.cons (.var 0) (.cons (.lit 0) .nil)))) (.lit 0))
def aEZ:List B:=aK eI++aEW
def eT:B:=(.cmp .eq (.app 83 (.cons (zz2 (.lit 24)) (.cons (.var 0) (.cons (.lit 1) .nil)))) (.lit 0))
def aFZ:List B:=aK eT++aEZ
def fD:B:=(.cmp .eq (.app 83 (.cons (zz2 (.lit 24)) (.cons (.var 0) (.cons (.lit 2) .nil)))) (.lit 0))
def aG8:List B:=aK fD++aFZ
def fR:B:=(.cmp .eq (.app 83 (.cons (zz2 (.lit 24)) (.cons (.var 0) (.cons (.lit 3) .nil)))) (.lit 0))
def aFW:List B:=aK fR++aG8
def fZ:B:=(.cmp .eq (.app 83 (.cons (zz2 (.lit 24)) (.cons (.var 0) (.cons (.lit 4) .nil)))) (.lit 0))
def aFw:List B:=aK fZ++aFW
def gL:B:=(.cmp .eq (.app 83 (.cons (zz2 (.lit 24)) (.cons (.var 0) (.cons (.lit 5) .nil)))) (.lit 0))
def aFA:List B:=aK gL++aFw
def iI:B:=(.cmp .eq (.app 82 (.cons (zz2 (.lit 24)) (.cons (.var 0) (.cons (.lit 6) .nil)))) (.lit 2))
def aF8:List B:=aK iI++aFA
def iO:B:=(.cmp .eq (.app 82 (.cons (zz2 (.lit 24)) (.cons (.var 0) (.cons (.lit 7) .nil)))) (.lit 0))
def aEG:List B:=aK iO++aF8
def jS:B:=(.cmp .eq (.app 82 (.cons (zz2 (.lit 24)) (.cons (.var 0) (.cons (.lit 8) .nil)))) (.lit 0))
def aC4:List B:=aK jS++aEG
def jX:B:=(.cmp .eq (.app 82 (.cons (zz2 (.lit 24)) (.cons (.var 0) (.cons (.lit 9) .nil)))) (.lit 0))
def aDY:List B:=aK jX++aC4
def kX:B:=(.cmp .eq (.app 82 (.cons (zz2 (.lit 24)) (.cons (.var 0) (.cons (.lit 10) .nil)))) (.lit 0))
def aD6:List B:=aK kX++aDY
def mU:B:=(.cmp .eq (.app 82 (.cons (zz2 (.lit 24)) (.cons (.var 0) (.cons (.lit 11) .nil)))) (.lit 0))
def aEy:List B:=aK mU++aD6
def aDH:List B:=aK (B.neg dT)++xO
theorem aDf:aBi Try.prog aEy = .ok (.agg [(.int .i64 (.op .add (.var 0) (.lit 1))),(.int .i64 (.var 0))]):=by kernel_rfl
theorem aCP:aBi Try.prog aDH = .ok (.tuple [(.agg []),(.bool (.lit true))]):=by kernel_rfl
end Go.Proofs.Ytkpdiehbaiepaaa
