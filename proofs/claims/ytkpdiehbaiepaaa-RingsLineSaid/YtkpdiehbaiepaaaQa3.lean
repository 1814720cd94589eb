/- What is proved: the rounds of a difference of rows of digits: the states between them. The conditions are the numbers' own bounds. -/
import Derived.Test.YtkpdiehbaiepaaaQa2
import Derived.Test.YtkpdiehbaiepaaaQg3
import Derived.Test.YtkpdiehbaiepaaaProg
set_option linter.unusedSimpArgs false
set_option linter.unusedVariables false
namespace Go.Proofs.Ytkpdiehbaiepaaa
open Go Go.RowKit Sx Nu Wi
def aLY:St:=⟨(.any::.any::.ptr 0 0::.ptr 1 0::.ptr 2 0::zz0::zzn 30 ([])),bQ GB++[some ([aQ (.var 0) 1,aQ (.var 0) 65536,aQ (.var 0) 4294967296,aQ (.var 0) 281474976710656,aQ (.var 0) 18446744073709551616,aQ (.var 0) 1208925819614629174706176,aQ (.var 0) 79228162514264337593543950336,aQ (.var 0) 5192296858534827628530496329220096,aQ (.var 0) 340282366920938463463374607431768211456,aQ (.var 0) 22300745198530623141535718272648361505980416,aQ (.var 0) 1461501637330902918203684832716283019655932542976,aQ (.var 0) 95780971304118053647396689196894323976171195136475136],225),some (aK (.var 1),225),some ([zz0,zz0,zz0,zz0,zz0,zz0,zz0,zz0,zz0,zz0,zz0,zz0],225)]⟩
def aWQ:St:=⟨(.any::.any::.ptr 0 0::.ptr 1 0::.ptr 2 0::.int .i64 (.lit 1)::zzn 30 ([])),bQ GB++[some ([aQ (.op .sub (.var 0) (.var 1)) 1,.int .i64 (.op .sub (.app 30 (.cons (.var 0) (.cons (.lit 65536) .nil))) (.app 32 (.cons (.var 0) (.cons (.var 1) (.cons (.lit 65536) .nil))))),aQ (.var 0) 4294967296,aQ (.var 0) 281474976710656,aQ (.var 0) 18446744073709551616,aQ (.var 0) 1208925819614629174706176,aQ (.var 0) 79228162514264337593543950336,aQ (.var 0) 5192296858534827628530496329220096,aQ (.var 0) 340282366920938463463374607431768211456,aQ (.var 0) 22300745198530623141535718272648361505980416,aQ (.var 0) 1461501637330902918203684832716283019655932542976,aQ (.var 0) 95780971304118053647396689196894323976171195136475136],225),some (aK (.var 1),225),some ([zz0,zz0,zz0,zz0,zz0,zz0,zz0,zz0,zz0,zz0,zz0,zz0],225)]⟩
def aZy:St:=⟨(.any::.any::.ptr 0 0::.ptr 1 0::.ptr 2 0::.int .i64 (.lit 2)::zzn 30 ([])),bQ GB++[some ([aQ (.op .sub (.var 0) (.var 1)) 1,aQ (.op .sub (.var 0) (.var 1)) 65536,.int .i64 (.op .sub (.app 30 (.cons (.var 0) (.cons (.lit 4294967296) .nil))) (.app 32 (.cons (.var 0) (.cons (.var 1) (.cons (.lit 4294967296) .nil))))),aQ (.var 0) 281474976710656,aQ (.var 0) 18446744073709551616,aQ (.var 0) 1208925819614629174706176,aQ (.var 0) 79228162514264337593543950336,aQ (.var 0) 5192296858534827628530496329220096,aQ (.var 0) 340282366920938463463374607431768211456,aQ (.var 0) 22300745198530623141535718272648361505980416,aQ (.var 0) 1461501637330902918203684832716283019655932542976,aQ (.var 0) 95780971304118053647396689196894323976171195136475136],225),some (aK (.var 1),225),some ([zz0,zz0,zz0,zz0,zz0,zz0,zz0,zz0,zz0,zz0,zz0,zz0],225)]⟩
def aXY:St:=⟨(.any::.any::.ptr 0 0::.ptr 1 0::.ptr 2 0::.int .i64 (.lit 3)::zzn 30 ([])),bQ GB++[some ([aQ (.op .sub (.var 0) (.var 1)) 1,aQ (.op .sub (.var 0) (.var 1)) 65536,aQ (.op .sub (.var 0) (.var 1)) 4294967296,.int .i64 (.op .sub (.app 30 (.cons (.var 0) (.cons (.lit 281474976710656) .nil))) (.app 32 (.cons (.var 0) (.cons (.var 1) (.cons (.lit 281474976710656) .nil))))),aQ (.var 0) 18446744073709551616,aQ (.var 0) 1208925819614629174706176,aQ (.var 0) 79228162514264337593543950336,aQ (.var 0) 5192296858534827628530496329220096,aQ (.var 0) 340282366920938463463374607431768211456,aQ (.var 0) 22300745198530623141535718272648361505980416,aQ (.var 0) 1461501637330902918203684832716283019655932542976,aQ (.var 0) 95780971304118053647396689196894323976171195136475136],225),some (aK (.var 1),225),some ([zz0,zz0,zz0,zz0,zz0,zz0,zz0,zz0,zz0,zz0,zz0,zz0],225)]⟩
def aYa:St:=⟨(.any::.any::.ptr 0 0::.ptr 1 0::.ptr 2 0::.int .i64 (.lit 4)::zzn 30 ([])),bQ GB++[some ([aQ (.op .sub (.var 0) (.var 1)) 1,aQ (.op .sub (.var 0) (.var 1)) 65536,aQ (.op .sub (.var 0) (.var 1)) 4294967296,aQ (.op .sub (.var 0) (.var 1)) 281474976710656,.int .i64 (.op .sub (.app 30 (.cons (.var 0) (.cons (.lit 18446744073709551616) .nil))) (.app 32 (.cons (.var 0) (.cons (.var 1) (.cons (.lit 18446744073709551616) .nil))))),aQ (.var 0) 1208925819614629174706176,aQ (.var 0) 79228162514264337593543950336,aQ (.var 0) 5192296858534827628530496329220096,aQ (.var 0) 340282366920938463463374607431768211456,aQ (.var 0) 22300745198530623141535718272648361505980416,aQ (.var 0) 1461501637330902918203684832716283019655932542976,aQ (.var 0) 95780971304118053647396689196894323976171195136475136],225),some (aK (.var 1),225),some ([zz0,zz0,zz0,zz0,zz0,zz0,zz0,zz0,zz0,zz0,zz0,zz0],225)]⟩
def aX9:St:=⟨(.any::.any::.ptr 0 0::.ptr 1 0::.ptr 2 0::.int .i64 (.lit 5)::zzn 30 ([])),bQ GB++[some ([aQ (.op .sub (.var 0) (.var 1)) 1,aQ (.op .sub (.var 0) (.var 1)) 65536,aQ (.op .sub (.var 0) (.var 1)) 4294967296,aQ (.op .sub (.var 0) (.var 1)) 281474976710656,aQ (.op .sub (.var 0) (.var 1)) 18446744073709551616,.int .i64 (.op .sub (.app 30 (.cons (.var 0) (.cons (.lit 1208925819614629174706176) .nil))) (.app 32 (.cons (.var 0) (.cons (.var 1) (.cons (.lit 1208925819614629174706176) .nil))))),aQ (.var 0) 79228162514264337593543950336,aQ (.var 0) 5192296858534827628530496329220096,aQ (.var 0) 340282366920938463463374607431768211456,aQ (.var 0) 22300745198530623141535718272648361505980416,aQ (.var 0) 1461501637330902918203684832716283019655932542976,aQ (.var 0) 95780971304118053647396689196894323976171195136475136],225),some (aK (.var 1),225),some ([zz0,zz0,zz0,zz0,zz0,zz0,zz0,zz0,zz0,zz0,zz0,zz0],225)]⟩
def aYB:St:=⟨(.any::.any::.ptr 0 0::.ptr 1 0::.ptr 2 0::.int .i64 (.lit 6)::zzn 30 ([])),bQ GB++[some ([aQ (.op .sub (.var 0) (.var 1)) 1,aQ (.op .sub (.var 0) (.var 1)) 65536,aQ (.op .sub (.var 0) (.var 1)) 4294967296,aQ (.op .sub (.var 0) (.var 1)) 281474976710656,aQ (.op .sub (.var 0) (.var 1)) 18446744073709551616,aQ (.op .sub (.var 0) (.var 1)) 1208925819614629174706176,.int .i64 (.op .sub (.app 30 (.cons (.var 0) (.cons (.lit 79228162514264337593543950336) .nil))) (.app 32 (.cons (.var 0) (.cons (.var 1) (.cons (.lit 79228162514264337593543950336) .nil))))),aQ (.var 0) 5192296858534827628530496329220096,aQ (.var 0) 340282366920938463463374607431768211456,aQ (.var 0) 22300745198530623141535718272648361505980416,aQ (.var 0) 1461501637330902918203684832716283019655932542976,aQ (.var 0) 95780971304118053647396689196894323976171195136475136],225),some (aK (.var 1),225),some ([zz0,zz0,zz0,zz0,zz0,zz0,zz0,zz0,zz0,zz0,zz0,zz0],225)]⟩
def aV6:St:=⟨(.any::.any::.ptr 0 0::.ptr 1 0::.ptr 2 0::.int .i64 (.lit 7)::zzn 30 ([])),bQ GB++[some ([aQ (.op .sub (.var 0) (.var 1)) 1,aQ (.op .sub (.var 0) (.var 1)) 65536,aQ (.op .sub (.var 0) (.var 1)) 4294967296,aQ (.op .sub (.var 0) (.var 1)) 281474976710656,aQ (.op .sub (.var 0) (.var 1)) 18446744073709551616,aQ (.op .sub (.var 0) (.var 1)) 1208925819614629174706176,aQ (.op .sub (.var 0) (.var 1)) 79228162514264337593543950336,.int .i64 (.op .sub (.app 30 (.cons (.var 0) (.cons (.lit 5192296858534827628530496329220096) .nil))) (.app 32 (.cons (.var 0) (.cons (.var 1) (.cons (.lit 5192296858534827628530496329220096) .nil))))),aQ (.var 0) 340282366920938463463374607431768211456,aQ (.var 0) 22300745198530623141535718272648361505980416,aQ (.var 0) 1461501637330902918203684832716283019655932542976,aQ (.var 0) 95780971304118053647396689196894323976171195136475136],225),some (aK (.var 1),225),some ([zz0,zz0,zz0,zz0,zz0,zz0,zz0,zz0,zz0,zz0,zz0,zz0],225)]⟩
def aWK:St:=⟨(.any::.any::.ptr 0 0::.ptr 1 0::.ptr 2 0::.int .i64 (.lit 8)::zzn 30 ([])),bQ GB++[some ([aQ (.op .sub (.var 0) (.var 1)) 1,aQ (.op .sub (.var 0) (.var 1)) 65536,aQ (.op .sub (.var 0) (.var 1)) 4294967296,aQ (.op .sub (.var 0) (.var 1)) 281474976710656,aQ (.op .sub (.var 0) (.var 1)) 18446744073709551616,aQ (.op .sub (.var 0) (.var 1)) 1208925819614629174706176,aQ (.op .sub (.var 0) (.var 1)) 79228162514264337593543950336,aQ (.op .sub (.var 0) (.var 1)) 5192296858534827628530496329220096,.int .i64 (.op .sub (.app 30 (.cons (.var 0) (.cons (.lit 340282366920938463463374607431768211456) .nil))) (.app 32 (.cons (.var 0) (.cons (.var 1) (.cons (.lit 340282366920938463463374607431768211456) .nil))))),aQ (.var 0) 22300745198530623141535718272648361505980416,aQ (.var 0) 1461501637330902918203684832716283019655932542976,aQ (.var 0) 95780971304118053647396689196894323976171195136475136],225),some (aK (.var 1),225),some ([zz0,zz0,zz0,zz0,zz0,zz0,zz0,zz0,zz0,zz0,zz0,zz0],225)]⟩
def aX3:St:=⟨(.any::.any::.ptr 0 0::.ptr 1 0::.ptr 2 0::.int .i64 (.lit 9)::zzn 30 ([])),bQ GB++[some ([aQ (.op .sub (.var 0) (.var 1)) 1,aQ (.op .sub (.var 0) (.var 1)) 65536,aQ (.op .sub (.var 0) (.var 1)) 4294967296,aQ (.op .sub (.var 0) (.var 1)) 281474976710656,aQ (.op .sub (.var 0) (.var 1)) 18446744073709551616,aQ (.op .sub (.var 0) (.var 1)) 1208925819614629174706176,aQ (.op .sub (.var 0) (.var 1)) 79228162514264337593543950336,aQ (.op .sub (.var 0) (.var 1)) 5192296858534827628530496329220096,aQ (.op .sub (.var 0) (.var 1)) 340282366920938463463374607431768211456,.int .i64 (.op .sub (.app 30 (.cons (.var 0) (.cons (.lit 22300745198530623141535718272648361505980416) .nil))) (.app 32 (.cons (.var 0) (.cons (.var 1) (.cons (.lit 22300745198530623141535718272648361505980416) .nil))))),aQ (.var 0) 1461501637330902918203684832716283019655932542976,aQ (.var 0) 95780971304118053647396689196894323976171195136475136],225),some (aK (.var 1),225),some ([zz0,zz0,zz0,zz0,zz0,zz0,zz0,zz0,zz0,zz0,zz0,zz0],225)]⟩
def aVF:St:=⟨(.any::.any::.ptr 0 0::.ptr 1 0::.ptr 2 0::.int .i64 (.lit 10)::zzn 30 ([])),bQ GB++[some ([aQ (.op .sub (.var 0) (.var 1)) 1,aQ (.op .sub (.var 0) (.var 1)) 65536,aQ (.op .sub (.var 0) (.var 1)) 4294967296,aQ (.op .sub (.var 0) (.var 1)) 281474976710656,aQ (.op .sub (.var 0) (.var 1)) 18446744073709551616,aQ (.op .sub (.var 0) (.var 1)) 1208925819614629174706176,aQ (.op .sub (.var 0) (.var 1)) 79228162514264337593543950336,aQ (.op .sub (.var 0) (.var 1)) 5192296858534827628530496329220096,aQ (.op .sub (.var 0) (.var 1)) 340282366920938463463374607431768211456,aQ (.op .sub (.var 0) (.var 1)) 22300745198530623141535718272648361505980416,.int .i64 (.op .sub (.app 30 (.cons (.var 0) (.cons (.lit 1461501637330902918203684832716283019655932542976) .nil))) (.app 32 (.cons (.var 0) (.cons (.var 1) (.cons (.lit 1461501637330902918203684832716283019655932542976) .nil))))),aQ (.var 0) 95780971304118053647396689196894323976171195136475136],225),some (aK (.var 1),225),some ([zz0,zz0,zz0,zz0,zz0,zz0,zz0,zz0,zz0,zz0,zz0,zz0],225)]⟩
def aPR:St:=⟨(.any::.any::.ptr 0 0::.ptr 1 0::.ptr 2 0::.int .i64 (.lit 11)::zzn 30 ([])),bQ GB++[some ([aQ (.op .sub (.var 0) (.var 1)) 1,aQ (.op .sub (.var 0) (.var 1)) 65536,aQ (.op .sub (.var 0) (.var 1)) 4294967296,aQ (.op .sub (.var 0) (.var 1)) 281474976710656,aQ (.op .sub (.var 0) (.var 1)) 18446744073709551616,aQ (.op .sub (.var 0) (.var 1)) 1208925819614629174706176,aQ (.op .sub (.var 0) (.var 1)) 79228162514264337593543950336,aQ (.op .sub (.var 0) (.var 1)) 5192296858534827628530496329220096,aQ (.op .sub (.var 0) (.var 1)) 340282366920938463463374607431768211456,aQ (.op .sub (.var 0) (.var 1)) 22300745198530623141535718272648361505980416,aQ (.op .sub (.var 0) (.var 1)) 1461501637330902918203684832716283019655932542976,.int .i64 (.op .sub (.app 30 (.cons (.var 0) (.cons (.lit 95780971304118053647396689196894323976171195136475136) .nil))) (.app 32 (.cons (.var 0) (.cons (.var 1) (.cons (.lit 95780971304118053647396689196894323976171195136475136) .nil)))))],225),some (aK (.var 1),225),some ([zz0,zz0,zz0,zz0,zz0,zz0,zz0,zz0,zz0,zz0,zz0,zz0],225)]⟩
def zZ:St:=⟨(.any::.any::.ptr 0 0::.ptr 1 0::.ptr 2 0::.int .i64 (.lit 12)::zzn 30 ([])),bQ GB++[some ([aQ (.op .sub (.var 0) (.var 1)) 1,aQ (.op .sub (.var 0) (.var 1)) 65536,aQ (.op .sub (.var 0) (.var 1)) 4294967296,aQ (.op .sub (.var 0) (.var 1)) 281474976710656,aQ (.op .sub (.var 0) (.var 1)) 18446744073709551616,aQ (.op .sub (.var 0) (.var 1)) 1208925819614629174706176,aQ (.op .sub (.var 0) (.var 1)) 79228162514264337593543950336,aQ (.op .sub (.var 0) (.var 1)) 5192296858534827628530496329220096,aQ (.op .sub (.var 0) (.var 1)) 340282366920938463463374607431768211456,aQ (.op .sub (.var 0) (.var 1)) 22300745198530623141535718272648361505980416,aQ (.op .sub (.var 0) (.var 1)) 1461501637330902918203684832716283019655932542976,aQ (.op .sub (.var 0) (.var 1)) 95780971304118053647396689196894323976171195136475136],225),some (aK (.var 1),225),some ([zz0,zz0,zz0,zz0,zz0,zz0,zz0,zz0,zz0,zz0,zz0,zz0],225)]⟩
def aCc:Nat→St
 |0=>aLY
 |1=>aWQ
 |2=>aZy
 |3=>aXY
 |4=>aYa
 |5=>aX9
 |6=>aYB
 |7=>aV6
 |8=>aWK
 |9=>aX3
 |10=>aVF
 |11=>aPR
 |12=>zZ
 |_=>zZ
def aUF:St:=⟨(.any::.any::.ptr 0 0::.ptr 1 0::.ptr 2 0::zzn 31 ([])),zZ.heap⟩
def aI3 (P:Program):Code:=aI0 (cV P 135)
def aIZ:LoopS:=⟨99,3,aLY,.lit true,.exit 0,aUF,.exit 0,aUF⟩
def cL (P:Program) (k:Nat) (fs:List B):Res SV:=bK G GI [(0,6277101735386680763835789423207666416102355444464034512895),(0,6277101735386680763835789423207666416102355444464034512895)] fs fun X=>qR P X GB jZ fX 3000 (aI3 P) aIZ (aCc k) (aCc (k+1))
def aIJ:LoopU:=⟨aIZ,[.var 0,.var 1],[(0,6277101735386680763835789423207666416102355444464034512895),(0,6277101735386680763835789423207666416102355444464034512895)],.lit true⟩
def aCl:eW:=kR 2 (gY (bX GB) [aIJ]) fX
theorem aJL:bM (cV Try.prog 135)=[aI3 Try.prog]:=by kernel_rfl
set_option maxRecDepth 100000
open Go Go.RowKit Sx Wi
def aLI (P:Program) (fs:List B):Res SV:=cL P 0 fs
def aFo:List B:=[]
def aIt:B:=(.cmp .lt (.op .sub (.app 30 (.cons (.var 0) (.cons (.lit 1) .nil))) (.app 30 (.cons (.var 1) (.cons (.lit 1) .nil)))) (.lit 0))
def aP2:List B:=aH aIt++aFo
def aVn:List B:=aH (B.neg aIt)++aFo
theorem aRA:aLI Try.prog aP2 = .ok (.agg [(.int .i64 (.op .add (.op .sub (.app 30 (.cons (.var 0) (.cons (.lit 1) .nil))) (.app 30 (.cons (.var 1) (.cons (.lit 1) .nil)))) (.lit 65536))),(.int .i64 (.app 30 (.cons (.op .sub (.var 0) (.var 1)) (.cons (.lit 1) .nil)))),(.int .i64 (.op .sub (.app 30 (.cons (.var 0) (.cons (.lit 65536) .nil))) (.lit 1))),(.int .i64 (.op .sub (.app 30 (.cons (.var 0) (.cons (.lit 65536) .nil))) (.app 32 (.cons (.var 0) (.cons (.var 1) (.cons (.lit 65536) .nil))))))]):=by kernel_rfl
theorem aTl:aLI Try.prog aVn = .ok (.agg [(.int .i64 (.op .sub (.app 30 (.cons (.var 0) (.cons (.lit 1) .nil))) (.app 30 (.cons (.var 1) (.cons (.lit 1) .nil))))),(.int .i64 (.app 30 (.cons (.op .sub (.var 0) (.var 1)) (.cons (.lit 1) .nil)))),(.int .i64 (.app 30 (.cons (.var 0) (.cons (.lit 65536) .nil)))),(.int .i64 (.op .sub (.app 30 (.cons (.var 0) (.cons (.lit 65536) .nil))) (.app 32 (.cons (.var 0) (.cons (.var 1) (.cons (.lit 65536) .nil))))))]):=by kernel_rfl
set_option maxRecDepth 100000
open Go Go.RowKit Sx Wi
def aL4 (P:Program) (fs:List B):Res SV:=cL P 1 fs
def aHl:List B:=[]
def aD6:B:=(.cmp .lt (.op .sub (.op .sub (.app 30 (.cons (.var 0) (.cons (.lit 65536) .nil))) (.app 32 (.cons (.var 0) (.cons (.var 1) (.cons (.lit 65536) .nil))))) (.app 30 (.cons (.var 1) (.cons (.lit 65536) .nil)))) (.lit 0))
def aPS:List B:=aH aD6++aHl
def aUa:List B:=aH (B.neg aD6)++aHl
theorem aQr:aL4 Try.prog aPS = .ok (.agg [(.int .i64 (.op .add (.op .sub (.op .sub (.app 30 (.cons (.var 0) (.cons (.lit 65536) .nil))) (.app 32 (.cons (.var 0) (.cons (.var 1) (.cons (.lit 65536) .nil))))) (.app 30 (.cons (.var 1) (.cons (.lit 65536) .nil)))) (.lit 65536))),(.int .i64 (.app 30 (.cons (.op .sub (.var 0) (.var 1)) (.cons (.lit 65536) .nil)))),(.int .i64 (.op .sub (.app 30 (.cons (.var 0) (.cons (.lit 4294967296) .nil))) (.lit 1))),(.int .i64 (.op .sub (.app 30 (.cons (.var 0) (.cons (.lit 4294967296) .nil))) (.app 32 (.cons (.var 0) (.cons (.var 1) (.cons (.lit 4294967296) .nil))))))]):=by kernel_rfl
theorem aVe:aL4 Try.prog aUa = .ok (.agg [(.int .i64 (.op .sub (.op .sub (.app 30 (.cons (.var 0) (.cons (.lit 65536) .nil))) (.app 32 (.cons (.var 0) (.cons (.var 1) (.cons (.lit 65536) .nil))))) (.app 30 (.cons (.var 1) (.cons (.lit 65536) .nil))))),(.int .i64 (.app 30 (.cons (.op .sub (.var 0) (.var 1)) (.cons (.lit 65536) .nil)))),(.int .i64 (.app 30 (.cons (.var 0) (.cons (.lit 4294967296) .nil)))),(.int .i64 (.op .sub (.app 30 (.cons (.var 0) (.cons (.lit 4294967296) .nil))) (.app 32 (.cons (.var 0) (.cons (.var 1) (.cons (.lit 4294967296) .nil))))))]):=by kernel_rfl
set_option maxRecDepth 100000
open Go Go.RowKit Sx Wi
def aLc (P:Program) (fs:List B):Res SV:=cL P 2 fs
def aD0:List B:=[]
def aHk:B:=(.cmp .lt (.op .sub (.op .sub (.app 30 (.cons (.var 0) (.cons (.lit 4294967296) .nil))) (.app 32 (.cons (.var 0) (.cons (.var 1) (.cons (.lit 4294967296) .nil))))) (.app 30 (.cons (.var 1) (.cons (.lit 4294967296) .nil)))) (.lit 0))
def aUw:List B:=aH aHk++aD0
def aP5:List B:=aH (B.neg aHk)++aD0
theorem aRx:aLc Try.prog aUw = .ok (.agg [(.int .i64 (.op .add (.op .sub (.op .sub (.app 30 (.cons (.var 0) (.cons (.lit 4294967296) .nil))) (.app 32 (.cons (.var 0) (.cons (.var 1) (.cons (.lit 4294967296) .nil))))) (.app 30 (.cons (.var 1) (.cons (.lit 4294967296) .nil)))) (.lit 65536))),(.int .i64 (.app 30 (.cons (.op .sub (.var 0) (.var 1)) (.cons (.lit 4294967296) .nil)))),(.int .i64 (.op .sub (.app 30 (.cons (.var 0) (.cons (.lit 281474976710656) .nil))) (.lit 1))),(.int .i64 (.op .sub (.app 30 (.cons (.var 0) (.cons (.lit 281474976710656) .nil))) (.app 32 (.cons (.var 0) (.cons (.var 1) (.cons (.lit 281474976710656) .nil))))))]):=by kernel_rfl
theorem aOG:aLc Try.prog aP5 = .ok (.agg [(.int .i64 (.op .sub (.op .sub (.app 30 (.cons (.var 0) (.cons (.lit 4294967296) .nil))) (.app 32 (.cons (.var 0) (.cons (.var 1) (.cons (.lit 4294967296) .nil))))) (.app 30 (.cons (.var 1) (.cons (.lit 4294967296) .nil))))),(.int .i64 (.app 30 (.cons (.op .sub (.var 0) (.var 1)) (.cons (.lit 4294967296) .nil)))),(.int .i64 (.app 30 (.cons (.var 0) (.cons (.lit 281474976710656) .nil)))),(.int .i64 (.op .sub (.app 30 (.cons (.var 0) (.cons (.lit 281474976710656) .nil))) (.app 32 (.cons (.var 0) (.cons (.var 1) (.cons (.lit 281474976710656) .nil))))))]):=by kernel_rfl
set_option maxRecDepth 100000
open Go Go.RowKit Sx Wi
def aKN (P:Program) (fs:List B):Res SV:=cL P 3 fs
def aDm:List B:=[]
def aFd:B:=(.cmp .lt (.op .sub (.op .sub (.app 30 (.cons (.var 0) (.cons (.lit 281474976710656) .nil))) (.app 32 (.cons (.var 0) (.cons (.var 1) (.cons (.lit 281474976710656) .nil))))) (.app 30 (.cons (.var 1) (.cons (.lit 281474976710656) .nil)))) (.lit 0))
def aPh:List B:=aH aFd++aDm
def aSX:List B:=aH (B.neg aFd)++aDm
theorem aRO:aKN Try.prog aPh = .ok (.agg [(.int .i64 (.op .add (.op .sub (.op .sub (.app 30 (.cons (.var 0) (.cons (.lit 281474976710656) .nil))) (.app 32 (.cons (.var 0) (.cons (.var 1) (.cons (.lit 281474976710656) .nil))))) (.app 30 (.cons (.var 1) (.cons (.lit 281474976710656) .nil)))) (.lit 65536))),(.int .i64 (.app 30 (.cons (.op .sub (.var 0) (.var 1)) (.cons (.lit 281474976710656) .nil)))),(.int .i64 (.op .sub (.app 30 (.cons (.var 0) (.cons (.lit zq4) .nil))) (.lit 1))),(.int .i64 (.op .sub (.app 30 (.cons (.var 0) (.cons (.lit zq4) .nil))) (.app 32 (.cons (.var 0) (.cons (.var 1) (.cons (.lit zq4) .nil))))))]):=by kernel_rfl
theorem aUB:aKN Try.prog aSX = .ok (.agg [(.int .i64 (.op .sub (.op .sub (.app 30 (.cons (.var 0) (.cons (.lit 281474976710656) .nil))) (.app 32 (.cons (.var 0) (.cons (.var 1) (.cons (.lit 281474976710656) .nil))))) (.app 30 (.cons (.var 1) (.cons (.lit 281474976710656) .nil))))),(.int .i64 (.app 30 (.cons (.op .sub (.var 0) (.var 1)) (.cons (.lit 281474976710656) .nil)))),(.int .i64 (.app 30 (.cons (.var 0) (.cons (.lit zq4) .nil)))),(.int .i64 (.op .sub (.app 30 (.cons (.var 0) (.cons (.lit zq4) .nil))) (.app 32 (.cons (.var 0) (.cons (.var 1) (.cons (.lit zq4) .nil))))))]):=by kernel_rfl
set_option maxRecDepth 100000
open Go Go.RowKit Sx Wi
def aLA (P:Program) (fs:List B):Res SV:=cL P 4 fs
def aDu:List B:=[]
def aFt:B:=(.cmp .lt (.op .sub (.op .sub (.app 30 (.cons (.var 0) (.cons (.lit zq4) .nil))) (.app 32 (.cons (.var 0) (.cons (.var 1) (.cons (.lit zq4) .nil))))) (.app 30 (.cons (.var 1) (.cons (.lit zq4) .nil)))) (.lit 0))
def aVI:List B:=aH aFt++aDu
def aUc:List B:=aH (B.neg aFt)++aDu
theorem aSq:aLA Try.prog aVI = .ok (.agg [(.int .i64 (.op .add (.op .sub (.op .sub (.app 30 (.cons (.var 0) (.cons (.lit zq4) .nil))) (.app 32 (.cons (.var 0) (.cons (.var 1) (.cons (.lit zq4) .nil))))) (.app 30 (.cons (.var 1) (.cons (.lit zq4) .nil)))) (.lit 65536))),(.int .i64 (.app 30 (.cons (.op .sub (.var 0) (.var 1)) (.cons (.lit zq4) .nil)))),(.int .i64 (.op .sub (.app 30 (.cons (.var 0) (.cons (.lit zq5) .nil))) (.lit 1))),(.int .i64 (.op .sub (.app 30 (.cons (.var 0) (.cons (.lit zq5) .nil))) (.app 32 (.cons (.var 0) (.cons (.var 1) (.cons (.lit zq5) .nil))))))]):=by kernel_rfl
theorem aVv:aLA Try.prog aUc = .ok (.agg [(.int .i64 (.op .sub (.op .sub (.app 30 (.cons (.var 0) (.cons (.lit zq4) .nil))) (.app 32 (.cons (.var 0) (.cons (.var 1) (.cons (.lit zq4) .nil))))) (.app 30 (.cons (.var 1) (.cons (.lit zq4) .nil))))),(.int .i64 (.app 30 (.cons (.op .sub (.var 0) (.var 1)) (.cons (.lit zq4) .nil)))),(.int .i64 (.app 30 (.cons (.var 0) (.cons (.lit zq5) .nil)))),(.int .i64 (.op .sub (.app 30 (.cons (.var 0) (.cons (.lit zq5) .nil))) (.app 32 (.cons (.var 0) (.cons (.var 1) (.cons (.lit zq5) .nil))))))]):=by kernel_rfl
set_option maxRecDepth 100000
open Go Go.RowKit Sx Wi
def aKL (P:Program) (fs:List B):Res SV:=cL P 5 fs
def aGt:List B:=[]
def aFl:B:=(.cmp .lt (.op .sub (.op .sub (.app 30 (.cons (.var 0) (.cons (.lit zq5) .nil))) (.app 32 (.cons (.var 0) (.cons (.var 1) (.cons (.lit zq5) .nil))))) (.app 30 (.cons (.var 1) (.cons (.lit zq5) .nil)))) (.lit 0))
def aPp:List B:=aH aFl++aGt
def aQ7:List B:=aH (B.neg aFl)++aGt
theorem aRE:aKL Try.prog aPp = .ok (.agg [(.int .i64 (.op .add (.op .sub (.op .sub (.app 30 (.cons (.var 0) (.cons (.lit zq5) .nil))) (.app 32 (.cons (.var 0) (.cons (.var 1) (.cons (.lit zq5) .nil))))) (.app 30 (.cons (.var 1) (.cons (.lit zq5) .nil)))) (.lit 65536))),(.int .i64 (.app 30 (.cons (.op .sub (.var 0) (.var 1)) (.cons (.lit zq5) .nil)))),(.int .i64 (.op .sub (.app 30 (.cons (.var 0) (.cons (.lit zq6) .nil))) (.lit 1))),(.int .i64 (.op .sub (.app 30 (.cons (.var 0) (.cons (.lit zq6) .nil))) (.app 32 (.cons (.var 0) (.cons (.var 1) (.cons (.lit zq6) .nil))))))]):=by kernel_rfl
theorem aR9:aKL Try.prog aQ7 = .ok (.agg [(.int .i64 (.op .sub (.op .sub (.app 30 (.cons (.var 0) (.cons (.lit zq5) .nil))) (.app 32 (.cons (.var 0) (.cons (.var 1) (.cons (.lit zq5) .nil))))) (.app 30 (.cons (.var 1) (.cons (.lit zq5) .nil))))),(.int .i64 (.app 30 (.cons (.op .sub (.var 0) (.var 1)) (.cons (.lit zq5) .nil)))),(.int .i64 (.app 30 (.cons (.var 0) (.cons (.lit zq6) .nil)))),(.int .i64 (.op .sub (.app 30 (.cons (.var 0) (.cons (.lit zq6) .nil))) (.app 32 (.cons (.var 0) (.cons (.var 1) (.cons (.lit zq6) .nil))))))]):=by kernel_rfl
set_option maxRecDepth 100000
open Go Go.RowKit Sx Wi
def aL7 (P:Program) (fs:List B):Res SV:=cL P 6 fs
def aEg:List B:=[]
def aHE:B:=(.cmp .lt (.op .sub (.op .sub (.app 30 (.cons (.var 0) (.cons (.lit zq6) .nil))) (.app 32 (.cons (.var 0) (.cons (.var 1) (.cons (.lit zq6) .nil))))) (.app 30 (.cons (.var 1) (.cons (.lit zq6) .nil)))) (.lit 0))
def aRX:List B:=aH aHE++aEg
def aUO:List B:=aH (B.neg aHE)++aEg
theorem aO3:aL7 Try.prog aRX = .ok (.agg [(.int .i64 (.op .add (.op .sub (.op .sub (.app 30 (.cons (.var 0) (.cons (.lit zq6) .nil))) (.app 32 (.cons (.var 0) (.cons (.var 1) (.cons (.lit zq6) .nil))))) (.app 30 (.cons (.var 1) (.cons (.lit zq6) .nil)))) (.lit 65536))),(.int .i64 (.app 30 (.cons (.op .sub (.var 0) (.var 1)) (.cons (.lit zq6) .nil)))),(.int .i64 (.op .sub (.app 30 (.cons (.var 0) (.cons (.lit zq7) .nil))) (.lit 1))),(.int .i64 (.op .sub (.app 30 (.cons (.var 0) (.cons (.lit zq7) .nil))) (.app 32 (.cons (.var 0) (.cons (.var 1) (.cons (.lit zq7) .nil))))))]):=by kernel_rfl
theorem aSY:aL7 Try.prog aUO = .ok (.agg [(.int .i64 (.op .sub (.op .sub (.app 30 (.cons (.var 0) (.cons (.lit zq6) .nil))) (.app 32 (.cons (.var 0) (.cons (.var 1) (.cons (.lit zq6) .nil))))) (.app 30 (.cons (.var 1) (.cons (.lit zq6) .nil))))),(.int .i64 (.app 30 (.cons (.op .sub (.var 0) (.var 1)) (.cons (.lit zq6) .nil)))),(.int .i64 (.app 30 (.cons (.var 0) (.cons (.lit zq7) .nil)))),(.int .i64 (.op .sub (.app 30 (.cons (.var 0) (.cons (.lit zq7) .nil))) (.app 32 (.cons (.var 0) (.cons (.var 1) (.cons (.lit zq7) .nil))))))]):=by kernel_rfl
set_option maxRecDepth 100000
open Go Go.RowKit Sx Wi
def aKT (P:Program) (fs:List B):Res SV:=cL P 7 fs
def aF5:List B:=[]
def aFO:B:=(.cmp .lt (.op .sub (.op .sub (.app 30 (.cons (.var 0) (.cons (.lit zq7) .nil))) (.app 32 (.cons (.var 0) (.cons (.var 1) (.cons (.lit zq7) .nil))))) (.app 30 (.cons (.var 1) (.cons (.lit zq7) .nil)))) (.lit 0))
def aQb:List B:=aH aFO++aF5
def aPO:List B:=aH (B.neg aFO)++aF5
theorem aTs:aKT Try.prog aQb = .ok (.agg [(.int .i64 (.op .add (.op .sub (.op .sub (.app 30 (.cons (.var 0) (.cons (.lit zq7) .nil))) (.app 32 (.cons (.var 0) (.cons (.var 1) (.cons (.lit zq7) .nil))))) (.app 30 (.cons (.var 1) (.cons (.lit zq7) .nil)))) (.lit 65536))),(.int .i64 (.app 30 (.cons (.op .sub (.var 0) (.var 1)) (.cons (.lit zq7) .nil)))),(.int .i64 (.op .sub (.app 30 (.cons (.var 0) (.cons (.lit zq8) .nil))) (.lit 1))),(.int .i64 (.op .sub (.app 30 (.cons (.var 0) (.cons (.lit zq8) .nil))) (.app 32 (.cons (.var 0) (.cons (.var 1) (.cons (.lit zq8) .nil))))))]):=by kernel_rfl
theorem aQZ:aKT Try.prog aPO = .ok (.agg [(.int .i64 (.op .sub (.op .sub (.app 30 (.cons (.var 0) (.cons (.lit zq7) .nil))) (.app 32 (.cons (.var 0) (.cons (.var 1) (.cons (.lit zq7) .nil))))) (.app 30 (.cons (.var 1) (.cons (.lit zq7) .nil))))),(.int .i64 (.app 30 (.cons (.op .sub (.var 0) (.var 1)) (.cons (.lit zq7) .nil)))),(.int .i64 (.app 30 (.cons (.var 0) (.cons (.lit zq8) .nil)))),(.int .i64 (.op .sub (.app 30 (.cons (.var 0) (.cons (.lit zq8) .nil))) (.app 32 (.cons (.var 0) (.cons (.var 1) (.cons (.lit zq8) .nil))))))]):=by kernel_rfl
set_option maxRecDepth 100000
open Go Go.RowKit Sx Wi
def aKy (P:Program) (fs:List B):Res SV:=cL P 8 fs
def aEK:List B:=[]
def aDi:B:=(.cmp .lt (.op .sub (.op .sub (.app 30 (.cons (.var 0) (.cons (.lit zq8) .nil))) (.app 32 (.cons (.var 0) (.cons (.var 1) (.cons (.lit zq8) .nil))))) (.app 30 (.cons (.var 1) (.cons (.lit zq8) .nil)))) (.lit 0))
def aSw:List B:=aH aDi++aEK
def aSv:List B:=aH (B.neg aDi)++aEK
theorem aQt:aKy Try.prog aSw = .ok (.agg [(.int .i64 (.op .add (.op .sub (.op .sub (.app 30 (.cons (.var 0) (.cons (.lit zq8) .nil))) (.app 32 (.cons (.var 0) (.cons (.var 1) (.cons (.lit zq8) .nil))))) (.app 30 (.cons (.var 1) (.cons (.lit zq8) .nil)))) (.lit 65536))),(.int .i64 (.app 30 (.cons (.op .sub (.var 0) (.var 1)) (.cons (.lit zq8) .nil)))),(.int .i64 (.op .sub (.app 30 (.cons (.var 0) (.cons (.lit zq9) .nil))) (.lit 1))),(.int .i64 (.op .sub (.app 30 (.cons (.var 0) (.cons (.lit zq9) .nil))) (.app 32 (.cons (.var 0) (.cons (.var 1) (.cons (.lit zq9) .nil))))))]):=by kernel_rfl
theorem aQg:aKy Try.prog aSv = .ok (.agg [(.int .i64 (.op .sub (.op .sub (.app 30 (.cons (.var 0) (.cons (.lit zq8) .nil))) (.app 32 (.cons (.var 0) (.cons (.var 1) (.cons (.lit zq8) .nil))))) (.app 30 (.cons (.var 1) (.cons (.lit zq8) .nil))))),(.int .i64 (.app 30 (.cons (.op .sub (.var 0) (.var 1)) (.cons (.lit zq8) .nil)))),(.int .i64 (.app 30 (.cons (.var 0) (.cons (.lit zq9) .nil)))),(.int .i64 (.op .sub (.app 30 (.cons (.var 0) (.cons (.lit zq9) .nil))) (.app 32 (.cons (.var 0) (.cons (.var 1) (.cons (.lit zq9) .nil))))))]):=by kernel_rfl
set_option maxRecDepth 100000
open Go Go.RowKit Sx Wi
def aLH (P:Program) (fs:List B):Res SV:=cL P 9 fs
def aEp:List B:=[]
def aEe:B:=(.cmp .lt (.op .sub (.op .sub (.app 30 (.cons (.var 0) (.cons (.lit zq9) .nil))) (.app 32 (.cons (.var 0) (.cons (.var 1) (.cons (.lit zq9) .nil))))) (.app 30 (.cons (.var 1) (.cons (.lit zq9) .nil)))) (.lit 0))
def aVV:List B:=aH aEe++aEp
def aUP:List B:=aH (B.neg aEe)++aEp
theorem aTR:aLH Try.prog aVV = .ok (.agg [(.int .i64 (.op .add (.op .sub (.op .sub (.app 30 (.cons (.var 0) (.cons (.lit zq9) .nil))) (.app 32 (.cons (.var 0) (.cons (.var 1) (.cons (.lit zq9) .nil))))) (.app 30 (.cons (.var 1) (.cons (.lit zq9) .nil)))) (.lit 65536))),(.int .i64 (.app 30 (.cons (.op .sub (.var 0) (.var 1)) (.cons (.lit zq9) .nil)))),(.int .i64 (.op .sub (.app 30 (.cons (.var 0) (.cons (.lit zq10) .nil))) (.lit 1))),(.int .i64 (.op .sub (.app 30 (.cons (.var 0) (.cons (.lit zq10) .nil))) (.app 32 (.cons (.var 0) (.cons (.var 1) (.cons (.lit zq10) .nil))))))]):=by kernel_rfl
theorem aRP:aLH Try.prog aUP = .ok (.agg [(.int .i64 (.op .sub (.op .sub (.app 30 (.cons (.var 0) (.cons (.lit zq9) .nil))) (.app 32 (.cons (.var 0) (.cons (.var 1) (.cons (.lit zq9) .nil))))) (.app 30 (.cons (.var 1) (.cons (.lit zq9) .nil))))),(.int .i64 (.app 30 (.cons (.op .sub (.var 0) (.var 1)) (.cons (.lit zq9) .nil)))),(.int .i64 (.app 30 (.cons (.var 0) (.cons (.lit zq10) .nil)))),(.int .i64 (.op .sub (.app 30 (.cons (.var 0) (.cons (.lit zq10) .nil))) (.app 32 (.cons (.var 0) (.cons (.var 1) (.cons (.lit zq10) .nil))))))]):=by kernel_rfl
set_option maxRecDepth 100000
open Go Go.RowKit Sx Wi
def aDW (P:Program) (fs:List B):Res SV:=cL P 10 fs
def aBV:List B:=[]
def aBJ:B:=(.cmp .lt (.op .sub (.op .sub (.app 30 (.cons (.var 0) (.cons (.lit zq10) .nil))) (.app 32 (.cons (.var 0) (.cons (.var 1) (.cons (.lit zq10) .nil))))) (.app 30 (.cons (.var 1) (.cons (.lit zq10) .nil)))) (.lit 0))
def aNb:List B:=aH aBJ++aBV
def aMO:List B:=aH (B.neg aBJ)++aBV
theorem aNx:aDW Try.prog aNb = .ok (.agg [(.int .i64 (.op .add (.op .sub (.op .sub (.app 30 (.cons (.var 0) (.cons (.lit zq10) .nil))) (.app 32 (.cons (.var 0) (.cons (.var 1) (.cons (.lit zq10) .nil))))) (.app 30 (.cons (.var 1) (.cons (.lit zq10) .nil)))) (.lit 65536))),(.int .i64 (.app 30 (.cons (.op .sub (.var 0) (.var 1)) (.cons (.lit zq10) .nil)))),(.int .i64 (.op .sub (.app 30 (.cons (.var 0) (.cons (.lit zq11) .nil))) (.lit 1))),(.int .i64 (.op .sub (.app 30 (.cons (.var 0) (.cons (.lit zq11) .nil))) (.app 32 (.cons (.var 0) (.cons (.var 1) (.cons (.lit zq11) .nil))))))]):=by kernel_rfl
theorem aNL:aDW Try.prog aMO = .ok (.agg [(.int .i64 (.op .sub (.op .sub (.app 30 (.cons (.var 0) (.cons (.lit zq10) .nil))) (.app 32 (.cons (.var 0) (.cons (.var 1) (.cons (.lit zq10) .nil))))) (.app 30 (.cons (.var 1) (.cons (.lit zq10) .nil))))),(.int .i64 (.app 30 (.cons (.op .sub (.var 0) (.var 1)) (.cons (.lit zq10) .nil)))),(.int .i64 (.app 30 (.cons (.var 0) (.cons (.lit zq11) .nil)))),(.int .i64 (.op .sub (.app 30 (.cons (.var 0) (.cons (.lit zq11) .nil))) (.app 32 (.cons (.var 0) (.cons (.var 1) (.cons (.lit zq11) .nil))))))]):=by kernel_rfl
set_option maxRecDepth 100000
open Go Go.RowKit Sx Wi
def aOr (P:Program) (fs:List B):Res SV:=cL P 11 fs
def aOg:List B:=[]
def aMU:B:=(.cmp .lt (.op .sub (.op .sub (.app 30 (.cons (.var 0) (.cons (.lit zq11) .nil))) (.app 32 (.cons (.var 0) (.cons (.var 1) (.cons (.lit zq11) .nil))))) (.app 30 (.cons (.var 1) (.cons (.lit zq11) .nil)))) (.lit 0))
def aNn:List B:=aH (B.neg aMU)++aOg
theorem aN5:aOr Try.prog aNn = .ok (.agg [(.int .i64 (.op .sub (.op .sub (.app 30 (.cons (.var 0) (.cons (.lit zq11) .nil))) (.app 32 (.cons (.var 0) (.cons (.var 1) (.cons (.lit zq11) .nil))))) (.app 30 (.cons (.var 1) (.cons (.lit zq11) .nil))))),(.int .i64 (.app 30 (.cons (.op .sub (.var 0) (.var 1)) (.cons (.lit zq11) .nil))))]):=by kernel_rfl
set_option maxRecDepth 100000
open Go Go.RowKit Sx Wi
def aPz (P:Program) (fs:List B):Res SV:=cL P 12 fs
def aNK:List B:=[]
theorem aNy:aPz Try.prog aNK = .ok (.tuple [(.agg []),(.bool (.lit true))]):=by kernel_rfl
set_option maxRecDepth 100000
open Go Go.RowKit Sx Wi
def bCB (P:Program) (fs:List B):Res SV:=bK G GI [(0,6277101735386680763835789423207666416102355444464034512895),(0,6277101735386680763835789423207666416102355444464034512895)] fs (fun X=>kL P X GB jZ aCl 3000 135 [.agg (aK (.var 0)),.agg (aK (.var 1))])
def aYA:List B:=[]
theorem aZG:bCB Try.prog aYA = .ok (.agg (aK (.op .sub (.var 0) (.var 1)))):=by kernel_rfl
end Go.Proofs.Ytkpdiehbaiepaaa
