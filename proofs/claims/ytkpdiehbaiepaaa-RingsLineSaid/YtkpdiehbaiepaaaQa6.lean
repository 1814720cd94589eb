/- What is proved: the rounds of a division bit by bit: the state between them. The conditions are the numbers' own bounds. -/
import Derived.Test.YtkpdiehbaiepaaaQa5
set_option linter.unusedSimpArgs false
set_option linter.unusedVariables false
namespace Go.Proofs.Ytkpdiehbaiepaaa
open Go Go.RowKit Sx Nu Wi
def bDR:St:=⟨(.any::.any::.ptr 0 0::.ptr 1 0::.ptr 2 0::.ptr 3 0::.ptr 4 0::.ptr 5 0::.int .i64 (.var 2)::zzn 35 ([])),bQ GB++[some (aK (.var 0),225),some (aK (.var 1),225),some ([zz0,zz0,zz0,zz0,zz0,zz0,zz0,zz0,zz0,zz0,zz0,zz0],225),some ([zz0,zz0,zz0,zz0,zz0,zz0,zz0,zz0,zz0,zz0,zz0,zz0],225),some (aK (.var 3),225),some (aK (.var 4),225)]⟩
def aZ1:St:=⟨(.any::.any::.ptr 0 0::.ptr 1 0::.ptr 2 0::.ptr 3 0::.ptr 4 0::.ptr 5 0::zzn 36 ([])),bQ GB++[some (aK (.var 0),225),some (aK (.var 1),225),some ([zz0,zz0,zz0,zz0,zz0,zz0,zz0,zz0,zz0,zz0,zz0,zz0],225),some ([zz0,zz0,zz0,zz0,zz0,zz0,zz0,zz0,zz0,zz0,zz0,zz0],225),some (aK (.op .quo (.var 0) (.var 1)),225),some (aK (.op .rem (.var 0) (.var 1)),225)]⟩
def aT7 (P:Program):Code:=aI0 (cV P 146)
def aZ2:LoopS:=⟨2,6,bDR,.lit true,.exit 0,aZ1,.exit 0,aZ1⟩
def zE (P:Program) (fs:List B):Res SV:=bK G GI [(0,1569275433846670190958947355801916604025588861116008628223),(1,1569275433846670190958947355801916604025588861116008628223),((-1),191),(0,1569275433846670190958947355801916604025588861116008628223),(0,1569275433846670190958947355801916604025588861116008628223)] fs fun X=>gI P X GB jO fX 3000 (aT7 P) aZ2
def aOz:LoopU:=⟨aZ2,[.var 0,.var 1,.lit 191,.lit 0,.lit 0],[(0,1569275433846670190958947355801916604025588861116008628223),(1,1569275433846670190958947355801916604025588861116008628223),((-1),191),(0,1569275433846670190958947355801916604025588861116008628223),(0,1569275433846670190958947355801916604025588861116008628223)],.lit true⟩
def aIV:eW:=kR 3 (gY (bX GB) [aOz]) fX
theorem eT (M:Int):dg 0 M=0:=by unfold dg;rw[Int.zero_ediv];rfl
def aV (x0 x1:Int) (x:Int × Int × Int):Nat→Int:=bT [x0,x1,x.1,x.2.1,x.2.2]
def iR (x0 x1:Int) (x:Int × Int × Int):Prop:=(-1≤x.1∧x.1≤191)∧(0≤x.2.1∧x.2.1≤x0)∧(0≤x.2.2∧x.2.2<x1)∧x0 / pw (x.1+1)=x.2.1*x1+x.2.2
def dO (x:Int × Int × Int):Nat:=(x.1+1).toNat
theorem cY (n b:Int) (h:n % 2=0) (h0:0≤b) (h1:b≤1):dg (n+b) 1=dg n 1+b∧dg (n+b) 65536=dg n 65536∧dg (n+b) 4294967296=dg n 4294967296∧dg (n+b) 281474976710656=dg n 281474976710656∧dg (n+b) 18446744073709551616=dg n 18446744073709551616∧dg (n+b) 1208925819614629174706176=dg n 1208925819614629174706176∧dg (n+b) 79228162514264337593543950336=dg n 79228162514264337593543950336∧dg (n+b) 5192296858534827628530496329220096=dg n 5192296858534827628530496329220096∧dg (n+b) 340282366920938463463374607431768211456=dg n 340282366920938463463374607431768211456∧dg (n+b) 22300745198530623141535718272648361505980416=dg n 22300745198530623141535718272648361505980416∧dg (n+b) 1461501637330902918203684832716283019655932542976=dg n 1461501637330902918203684832716283019655932542976∧dg (n+b) 95780971304118053647396689196894323976171195136475136=dg n 95780971304118053647396689196894323976171195136475136:=
 ⟨aJt n b h h0 h1,eY n b 1 (by decide) h h0 h1,eY n b 65536 (by decide) h h0 h1,eY n b 4294967296 (by decide) h h0 h1,eY n b 281474976710656 (by decide) h h0 h1,eY n b 18446744073709551616 (by decide) h h0 h1,eY n b 1208925819614629174706176 (by decide) h h0 h1,eY n b 79228162514264337593543950336 (by decide) h h0 h1,eY n b 5192296858534827628530496329220096 (by decide) h h0 h1,eY n b 340282366920938463463374607431768211456 (by decide) h h0 h1,eY n b 22300745198530623141535718272648361505980416 (by decide) h h0 h1,eY n b 1461501637330902918203684832716283019655932542976 (by decide) h h0 h1⟩
theorem aM3:bM (cV Try.prog 146)=[aT7 Try.prog]:=by kernel_rfl
theorem aVr (x0 x1 x2 x3 x4 M b:Int) (hx:0≤x0) (hd:1≤x1) (h2:0≤x2) (g3:0≤x3) (g4:0≤x4) (g5:x4<x1) (hA:x0 / pw (x2+1)=x3*x1+x4)
  (bl:x0 / pw x2=2*(x0 / pw (x2+1))+b) (b0:0≤b) (b1:b≤1):
  (x1≤x4+x4+b→(0≤x3+x3+1∧x3+x3+1≤x0)∧(0≤x4+x4+b-x1∧x4+x4+b-x1<x1)∧x0 / pw (x2-1+1)=(x3+x3+1)*x1+(x4+x4+b-x1))∧
  (x4+x4+b<x1→(0≤x3+x3∧x3+x3≤x0)∧(0≤x4+x4+b∧x4+x4+b<x1)∧x0 / pw (x2-1+1)=(x3+x3)*x1+(x4+x4+b)):=by
 have e:x2-1+1=x2:=by omega
 rw[e,bl,hA]
 have le:x0 / pw x2≤x0:=Int.ediv_le_self _ hx
 have k:∀ q r:Int,0≤q→0≤r→x0 / pw x2=q*x1+r→q≤x0:=by
  intro q r hq hr hh
  have:=Int.mul_le_mul_of_nonneg_left hd hq
  omega
 have e1:(x3+x3+1)*x1=2*(x3*x1)+x1:=by grind
 have e2:(x3+x3)*x1=2*(x3*x1):=by grind
 refine⟨fun h=>⟨⟨by omega,?_⟩,⟨by omega,by omega⟩,by rw[e1];omega⟩,fun h=>⟨⟨by omega,?_⟩,⟨by omega,h⟩,by rw[e2];omega⟩⟩
 ·exact k _ (x4+x4+b-x1) (by omega) (by omega) (by rw[bl,hA,e1];omega)
 ·exact k _ (x4+x4+b) (by omega) (by omega) (by rw[bl,hA,e2];omega)
theorem fP {x:Int} (h:0≤x):x.tdiv 16=x / 16:=Int.tdiv_eq_ediv_of_nonneg h
theorem cG (x0 x1 x2 x3 x4 M j:Int) (hj:x2.tdiv 16=j) (h2:0≤x2) (j0:0≤j) (hM:pw (16*j)=M) (M0:0<M) (hx:0≤x0) (hd:1≤x1) (hg:iR x0 x1 (x2,x3,x4)):
  0≤Int.tmod (Int.fdiv (dg x0 M) (1*2 ^ (Int.tmod x2 16).toNat)) 2∧Int.tmod (Int.fdiv (dg x0 M) (1*2 ^ (Int.tmod x2 16).toNat)) 2≤1∧(x1≤x4+x4+Int.tmod (Int.fdiv (dg x0 M) (1*2 ^ (Int.tmod x2 16).toNat)) 2→iR x0 x1 (x2-1,x3+x3+1,x4+x4+Int.tmod (Int.fdiv (dg x0 M) (1*2 ^ (Int.tmod x2 16).toNat)) 2-x1))∧(x4+x4+Int.tmod (Int.fdiv (dg x0 M) (1*2 ^ (Int.tmod x2 16).toNat)) 2<x1→iR x0 x1 (x2-1,x3+x3,x4+x4+Int.tmod (Int.fdiv (dg x0 M) (1*2 ^ (Int.tmod x2 16).toNat)) 2)):=by
 obtain⟨⟨g1,g2⟩,⟨g3,g3'⟩,⟨g4,g5⟩,g6⟩:=hg
 simp only at g1 g2 g3 g3' g4 g5 g6
 have tq:x2.tdiv 16=x2 / 16:=Int.tdiv_eq_ediv_of_nonneg (by omega)
 have tm:x2.tmod 16=x2 % 16:=Int.tmod_eq_emod_of_nonneg (by omega)
 rw[tq]at hj
 have ps:=hZ (16*j) (x2 % 16) (by omega) (by omega)
 rw[show 16*j+x2 % 16=x2 by omega,hM]at ps
 obtain⟨bl,bb0,bb1⟩:=fU x0 x2 (x2 % 16) M hx M0 (by omega) (by omega) ps (fV x2 (by omega))
 rw[←tm]at bl bb0 bb1
 generalize hbb:Int.tmod (Int.fdiv (dg x0 M) (1*2 ^ (Int.tmod x2 16).toNat)) 2=bb at *
 have hn:=aVr x0 x1 x2 x3 x4 M bb hx hd h2 g3 g4 g5 g6 bl bb0 bb1
 exact⟨bb0,bb1,fun h=>⟨⟨by show -1≤x2-1;omega,by show x2-1≤191;omega⟩,hn.1 h⟩,fun h=>⟨⟨by show -1≤x2-1;omega,by show x2-1≤191;omega⟩,hn.2 h⟩⟩
set_option maxRecDepth 100000
open Go Go.RowKit Sx Wi
def cW (P:Program) (fs:List B):Res SV:=zE P fs
def aLa:List B:=[]
def aKe:B:=(.cmp .le (.lit 0) (.var 2))
def aLS:List B:=aH aKe++aLa
def aKl:B:=(.cmp .eq (.op .quo (.var 2) (.lit 16)) (.lit 0))
def aZB:List B:=aH aKl++aLS
def aWV:B:=(.cmp .le (.op .add (.app 30 (.cons (.op .add (.var 4) (.var 4)) (.cons (.lit 1) .nil))) (.op .rem (.op .fdiv (.app 30 (.cons (.var 0) (.cons (.lit 1) .nil))) (.op .shl (.lit 1) (.op .rem (.var 2) (.lit 16)))) (.lit 2))) (.lit 65535))
def aKp:List B:=aH aWV++aZB
def aK9:B:=(.cmp .lt (.op .add (.op .add (.var 4) (.var 4)) (.op .rem (.op .fdiv (.app 30 (.cons (.var 0) (.cons (.lit 1) .nil))) (.op .shl (.lit 1) (.op .rem (.var 2) (.lit 16)))) (.lit 2))) (.var 1))
def aXG:List B:=aH aK9++aKp
def aMh:List B:=aH (B.neg aK9)++aKp
def aLL:B:=(.cmp .lt (.var 1) (.op .add (.op .add (.var 4) (.var 4)) (.op .rem (.op .fdiv (.app 30 (.cons (.var 0) (.cons (.lit 1) .nil))) (.op .shl (.lit 1) (.op .rem (.var 2) (.lit 16)))) (.lit 2))))
def aXD:List B:=aH aLL++aMh
def aXj:List B:=aH (B.neg aLL)++aMh
def aKR:List B:=aH (B.neg aKl)++aLS
def aLM:B:=(.cmp .eq (.op .quo (.var 2) (.lit 16)) (.lit 1))
def aQM:List B:=aH aLM++aKR
def aPa:B:=(.cmp .le (.op .add (.app 30 (.cons (.op .add (.var 4) (.var 4)) (.cons (.lit 1) .nil))) (.op .rem (.op .fdiv (.app 30 (.cons (.var 0) (.cons (.lit 65536) .nil))) (.op .shl (.lit 1) (.op .rem (.var 2) (.lit 16)))) (.lit 2))) (.lit 65535))
def aGP:List B:=aH aPa++aQM
def aIu:B:=(.cmp .lt (.op .add (.op .add (.var 4) (.var 4)) (.op .rem (.op .fdiv (.app 30 (.cons (.var 0) (.cons (.lit 65536) .nil))) (.op .shl (.lit 1) (.op .rem (.var 2) (.lit 16)))) (.lit 2))) (.var 1))
def aSB:List B:=aH aIu++aGP
def aFe:List B:=aH (B.neg aIu)++aGP
def aFg:B:=(.cmp .lt (.var 1) (.op .add (.op .add (.var 4) (.var 4)) (.op .rem (.op .fdiv (.app 30 (.cons (.var 0) (.cons (.lit 65536) .nil))) (.op .shl (.lit 1) (.op .rem (.var 2) (.lit 16)))) (.lit 2))))
def aOu:List B:=aH aFg++aFe
def aPV:List B:=aH (B.neg aFg)++aFe
def aFk:List B:=aH (B.neg aLM)++aKR
def aGv:B:=(.cmp .eq (.op .quo (.var 2) (.lit 16)) (.lit 2))
def aQ8:List B:=aH aGv++aFk
def aPb:B:=(.cmp .le (.op .add (.app 30 (.cons (.op .add (.var 4) (.var 4)) (.cons (.lit 1) .nil))) (.op .rem (.op .fdiv (.app 30 (.cons (.var 0) (.cons (.lit 4294967296) .nil))) (.op .shl (.lit 1) (.op .rem (.var 2) (.lit 16)))) (.lit 2))) (.lit 65535))
def aHJ:List B:=aH aPb++aQ8
def aHx:B:=(.cmp .lt (.op .add (.op .add (.var 4) (.var 4)) (.op .rem (.op .fdiv (.app 30 (.cons (.var 0) (.cons (.lit 4294967296) .nil))) (.op .shl (.lit 1) (.op .rem (.var 2) (.lit 16)))) (.lit 2))) (.var 1))
def aPn:List B:=aH aHx++aHJ
def aDE:List B:=aH (B.neg aHx)++aHJ
def aF3:B:=(.cmp .lt (.var 1) (.op .add (.op .add (.var 4) (.var 4)) (.op .rem (.op .fdiv (.app 30 (.cons (.var 0) (.cons (.lit 4294967296) .nil))) (.op .shl (.lit 1) (.op .rem (.var 2) (.lit 16)))) (.lit 2))))
def aSy:List B:=aH aF3++aDE
def aTI:List B:=aH (B.neg aF3)++aDE
def aHU:List B:=aH (B.neg aGv)++aFk
def aHO:B:=(.cmp .eq (.op .quo (.var 2) (.lit 16)) (.lit 3))
def aVm:List B:=aH aHO++aHU
def aVE:B:=(.cmp .le (.op .add (.app 30 (.cons (.op .add (.var 4) (.var 4)) (.cons (.lit 1) .nil))) (.op .rem (.op .fdiv (.app 30 (.cons (.var 0) (.cons (.lit 281474976710656) .nil))) (.op .shl (.lit 1) (.op .rem (.var 2) (.lit 16)))) (.lit 2))) (.lit 65535))
def aEI:List B:=aH aVE++aVm
def aG3:B:=(.cmp .lt (.op .add (.op .add (.var 4) (.var 4)) (.op .rem (.op .fdiv (.app 30 (.cons (.var 0) (.cons (.lit 281474976710656) .nil))) (.op .shl (.lit 1) (.op .rem (.var 2) (.lit 16)))) (.lit 2))) (.var 1))
def aQU:List B:=aH aG3++aEI
def aE2:List B:=aH (B.neg aG3)++aEI
def aDK:B:=(.cmp .lt (.var 1) (.op .add (.op .add (.var 4) (.var 4)) (.op .rem (.op .fdiv (.app 30 (.cons (.var 0) (.cons (.lit 281474976710656) .nil))) (.op .shl (.lit 1) (.op .rem (.var 2) (.lit 16)))) (.lit 2))))
def aTM:List B:=aH aDK++aE2
def aTE:List B:=aH (B.neg aDK)++aE2
def aDf:List B:=aH (B.neg aHO)++aHU
def aIq:B:=(.cmp .eq (.op .quo (.var 2) (.lit 16)) (.lit 4))
def aTj:List B:=aH aIq++aDf
def aR3:B:=(.cmp .le (.op .add (.app 30 (.cons (.op .add (.var 4) (.var 4)) (.cons (.lit 1) .nil))) (.op .rem (.op .fdiv (.app 30 (.cons (.var 0) (.cons (.lit zq4) .nil))) (.op .shl (.lit 1) (.op .rem (.var 2) (.lit 16)))) (.lit 2))) (.lit 65535))
def aHv:List B:=aH aR3++aTj
def aH6:B:=(.cmp .lt (.op .add (.op .add (.var 4) (.var 4)) (.op .rem (.op .fdiv (.app 30 (.cons (.var 0) (.cons (.lit zq4) .nil))) (.op .shl (.lit 1) (.op .rem (.var 2) (.lit 16)))) (.lit 2))) (.var 1))
def aVP:List B:=aH aH6++aHv
def aG0:List B:=aH (B.neg aH6)++aHv
def aDb:B:=(.cmp .lt (.var 1) (.op .add (.op .add (.var 4) (.var 4)) (.op .rem (.op .fdiv (.app 30 (.cons (.var 0) (.cons (.lit zq4) .nil))) (.op .shl (.lit 1) (.op .rem (.var 2) (.lit 16)))) (.lit 2))))
def aVX:List B:=aH aDb++aG0
def aSs:List B:=aH (B.neg aDb)++aG0
def aEb:List B:=aH (B.neg aIq)++aDf
def aGC:B:=(.cmp .eq (.op .quo (.var 2) (.lit 16)) (.lit 5))
def aRT:List B:=aH aGC++aEb
def aUg:B:=(.cmp .le (.op .add (.app 30 (.cons (.op .add (.var 4) (.var 4)) (.cons (.lit 1) .nil))) (.op .rem (.op .fdiv (.app 30 (.cons (.var 0) (.cons (.lit zq5) .nil))) (.op .shl (.lit 1) (.op .rem (.var 2) (.lit 16)))) (.lit 2))) (.lit 65535))
def aEh:List B:=aH aUg++aRT
def aEE:B:=(.cmp .lt (.op .add (.op .add (.var 4) (.var 4)) (.op .rem (.op .fdiv (.app 30 (.cons (.var 0) (.cons (.lit zq5) .nil))) (.op .shl (.lit 1) (.op .rem (.var 2) (.lit 16)))) (.lit 2))) (.var 1))
def aTJ:List B:=aH aEE++aEh
def aDM:List B:=aH (B.neg aEE)++aEh
def aFn:B:=(.cmp .lt (.var 1) (.op .add (.op .add (.var 4) (.var 4)) (.op .rem (.op .fdiv (.app 30 (.cons (.var 0) (.cons (.lit zq5) .nil))) (.op .shl (.lit 1) (.op .rem (.var 2) (.lit 16)))) (.lit 2))))
def aPQ:List B:=aH aFn++aDM
def aPj:List B:=aH (B.neg aFn)++aDM
def aE9:List B:=aH (B.neg aGC)++aEb
def aFa:B:=(.cmp .eq (.op .quo (.var 2) (.lit 16)) (.lit 6))
def aP9:List B:=aH aFa++aE9
def aVT:B:=(.cmp .le (.op .add (.app 30 (.cons (.op .add (.var 4) (.var 4)) (.cons (.lit 1) .nil))) (.op .rem (.op .fdiv (.app 30 (.cons (.var 0) (.cons (.lit zq6) .nil))) (.op .shl (.lit 1) (.op .rem (.var 2) (.lit 16)))) (.lit 2))) (.lit 65535))
def aGW:List B:=aH aVT++aP9
def aGZ:B:=(.cmp .lt (.op .add (.op .add (.var 4) (.var 4)) (.op .rem (.op .fdiv (.app 30 (.cons (.var 0) (.cons (.lit zq6) .nil))) (.op .shl (.lit 1) (.op .rem (.var 2) (.lit 16)))) (.lit 2))) (.var 1))
def aP1:List B:=aH aGZ++aGW
def aDa:List B:=aH (B.neg aGZ)++aGW
def aGB:B:=(.cmp .lt (.var 1) (.op .add (.op .add (.var 4) (.var 4)) (.op .rem (.op .fdiv (.app 30 (.cons (.var 0) (.cons (.lit zq6) .nil))) (.op .shl (.lit 1) (.op .rem (.var 2) (.lit 16)))) (.lit 2))))
def aRz:List B:=aH aGB++aDa
def aU4:List B:=aH (B.neg aGB)++aDa
def aF1:List B:=aH (B.neg aFa)++aE9
def aGe:B:=(.cmp .eq (.op .quo (.var 2) (.lit 16)) (.lit 7))
def aVl:List B:=aH aGe++aF1
def aTC:B:=(.cmp .le (.op .add (.app 30 (.cons (.op .add (.var 4) (.var 4)) (.cons (.lit 1) .nil))) (.op .rem (.op .fdiv (.app 30 (.cons (.var 0) (.cons (.lit zq7) .nil))) (.op .shl (.lit 1) (.op .rem (.var 2) (.lit 16)))) (.lit 2))) (.lit 65535))
def aHN:List B:=aH aTC++aVl
def aDV:B:=(.cmp .lt (.op .add (.op .add (.var 4) (.var 4)) (.op .rem (.op .fdiv (.app 30 (.cons (.var 0) (.cons (.lit zq7) .nil))) (.op .shl (.lit 1) (.op .rem (.var 2) (.lit 16)))) (.lit 2))) (.var 1))
def aTL:List B:=aH aDV++aHN
def aE6:List B:=aH (B.neg aDV)++aHN
def aHy:B:=(.cmp .lt (.var 1) (.op .add (.op .add (.var 4) (.var 4)) (.op .rem (.op .fdiv (.app 30 (.cons (.var 0) (.cons (.lit zq7) .nil))) (.op .shl (.lit 1) (.op .rem (.var 2) (.lit 16)))) (.lit 2))))
def aQf:List B:=aH aHy++aE6
def aQp:List B:=aH (B.neg aHy)++aE6
def aFT:List B:=aH (B.neg aGe)++aF1
def aId:B:=(.cmp .eq (.op .quo (.var 2) (.lit 16)) (.lit 8))
def aQN:List B:=aH aId++aFT
def aPC:B:=(.cmp .le (.op .add (.app 30 (.cons (.op .add (.var 4) (.var 4)) (.cons (.lit 1) .nil))) (.op .rem (.op .fdiv (.app 30 (.cons (.var 0) (.cons (.lit zq8) .nil))) (.op .shl (.lit 1) (.op .rem (.var 2) (.lit 16)))) (.lit 2))) (.lit 65535))
def aDZ:List B:=aH aPC++aQN
def aGs:B:=(.cmp .lt (.op .add (.op .add (.var 4) (.var 4)) (.op .rem (.op .fdiv (.app 30 (.cons (.var 0) (.cons (.lit zq8) .nil))) (.op .shl (.lit 1) (.op .rem (.var 2) (.lit 16)))) (.lit 2))) (.var 1))
def aRZ:List B:=aH aGs++aDZ
def aFh:List B:=aH (B.neg aGs)++aDZ
def aDJ:B:=(.cmp .lt (.var 1) (.op .add (.op .add (.var 4) (.var 4)) (.op .rem (.op .fdiv (.app 30 (.cons (.var 0) (.cons (.lit zq8) .nil))) (.op .shl (.lit 1) (.op .rem (.var 2) (.lit 16)))) (.lit 2))))
def aTT:List B:=aH aDJ++aFh
def aVA:List B:=aH (B.neg aDJ)++aFh
def aDq:List B:=aH (B.neg aId)++aFT
def aHa:B:=(.cmp .eq (.op .quo (.var 2) (.lit 16)) (.lit 9))
def aQ9:List B:=aH aHa++aDq
def aOP:B:=(.cmp .le (.op .add (.app 30 (.cons (.op .add (.var 4) (.var 4)) (.cons (.lit 1) .nil))) (.op .rem (.op .fdiv (.app 30 (.cons (.var 0) (.cons (.lit zq9) .nil))) (.op .shl (.lit 1) (.op .rem (.var 2) (.lit 16)))) (.lit 2))) (.lit 65535))
def aFs:List B:=aH aOP++aQ9
def aEj:B:=(.cmp .lt (.op .add (.op .add (.var 4) (.var 4)) (.op .rem (.op .fdiv (.app 30 (.cons (.var 0) (.cons (.lit zq9) .nil))) (.op .shl (.lit 1) (.op .rem (.var 2) (.lit 16)))) (.lit 2))) (.var 1))
def aPy:List B:=aH aEj++aFs
def aFJ:List B:=aH (B.neg aEj)++aFs
def aGf:B:=(.cmp .lt (.var 1) (.op .add (.op .add (.var 4) (.var 4)) (.op .rem (.op .fdiv (.app 30 (.cons (.var 0) (.cons (.lit zq9) .nil))) (.op .shl (.lit 1) (.op .rem (.var 2) (.lit 16)))) (.lit 2))))
def aON:List B:=aH aGf++aFJ
def aUt:List B:=aH (B.neg aGf)++aFJ
def aHw:List B:=aH (B.neg aHa)++aDq
def aFS:B:=(.cmp .eq (.op .quo (.var 2) (.lit 16)) (.lit 10))
def aSz:List B:=aH aFS++aHw
def aVR:B:=(.cmp .le (.op .add (.app 30 (.cons (.op .add (.var 4) (.var 4)) (.cons (.lit 1) .nil))) (.op .rem (.op .fdiv (.app 30 (.cons (.var 0) (.cons (.lit zq10) .nil))) (.op .shl (.lit 1) (.op .rem (.var 2) (.lit 16)))) (.lit 2))) (.lit 65535))
def aGz:List B:=aH aVR++aSz
def aIs:B:=(.cmp .lt (.op .add (.op .add (.var 4) (.var 4)) (.op .rem (.op .fdiv (.app 30 (.cons (.var 0) (.cons (.lit zq10) .nil))) (.op .shl (.lit 1) (.op .rem (.var 2) (.lit 16)))) (.lit 2))) (.var 1))
def aTZ:List B:=aH aIs++aGz
def aFI:List B:=aH (B.neg aIs)++aGz
def aDQ:B:=(.cmp .lt (.var 1) (.op .add (.op .add (.var 4) (.var 4)) (.op .rem (.op .fdiv (.app 30 (.cons (.var 0) (.cons (.lit zq10) .nil))) (.op .shl (.lit 1) (.op .rem (.var 2) (.lit 16)))) (.lit 2))))
def aQF:List B:=aH aDQ++aFI
def aPg:List B:=aH (B.neg aDQ)++aFI
def aUR:List B:=aH (B.neg aFS)++aHw
def aUU:B:=(.cmp .le (.op .add (.app 30 (.cons (.op .add (.var 4) (.var 4)) (.cons (.lit 1) .nil))) (.op .rem (.op .fdiv (.app 30 (.cons (.var 0) (.cons (.lit zq11) .nil))) (.op .shl (.lit 1) (.op .rem (.var 2) (.lit 16)))) (.lit 2))) (.lit 65535))
def aGH:List B:=aH aUU++aUR
def aFp:B:=(.cmp .lt (.op .add (.op .add (.var 4) (.var 4)) (.op .rem (.op .fdiv (.app 30 (.cons (.var 0) (.cons (.lit zq11) .nil))) (.op .shl (.lit 1) (.op .rem (.var 2) (.lit 16)))) (.lit 2))) (.var 1))
def aVU:List B:=aH aFp++aGH
def aGR:List B:=aH (B.neg aFp)++aGH
def aG8:B:=(.cmp .lt (.var 1) (.op .add (.op .add (.var 4) (.var 4)) (.op .rem (.op .fdiv (.app 30 (.cons (.var 0) (.cons (.lit zq11) .nil))) (.op .shl (.lit 1) (.op .rem (.var 2) (.lit 16)))) (.lit 2))))
def aOD:List B:=aH aG8++aGR
def aPW:List B:=aH (B.neg aG8)++aGR
def aTz:List B:=aH (B.neg aKe)++aLa
set_option maxRecDepth 100000
open Go Go.RowKit Sx Wi
theorem aYo:cW Try.prog aXG = .ok (.agg ([(.int .i64 (.op .sub (.var 2) (.lit 1))),(.int .i64 (.var 2))]++bD zzb (.var 3)++[(.int .i64 (.op .add (.app 30 (.cons (.op .add (.var 4) (.var 4)) (.cons (.lit 1) .nil))) (.op .rem (.op .fdiv (.app 30 (.cons (.var 0) (.cons (.lit 1) .nil))) (.op .shl (.lit 1) (.op .rem (.var 2) (.lit 16)))) (.lit 2)))),(.int .i64 (.app 30 (.cons (.var 4) (.cons (.lit 1) .nil))))]++aM (.op .add (.var 4) (.var 4)) (.var 4))):=by kernel_rfl
theorem aY8:cW Try.prog aXD = .ok (.agg ([(.int .i64 (.op .sub (.var 2) (.lit 1))),(.int .i64 (.var 2)),(.int .i64 (.op .add (.app 30 (.cons zzb (.cons (.lit 1) .nil))) (.lit 1))),(.int .i64 (.app 30 (.cons (.var 3) (.cons (.lit 1) .nil))))]++aM zzb (.var 3)++bD (.op .sub (.op .add (.op .add (.var 4) (.var 4)) (.op .rem (.op .fdiv (.app 30 (.cons (.var 0) (.cons (.lit 1) .nil))) (.op .shl (.lit 1) (.op .rem (.var 2) (.lit 16)))) (.lit 2))) (.var 1)) (.var 4))):=by kernel_rfl
theorem aZg:cW Try.prog aXj = .ok (.agg ([(.int .i64 (.op .sub (.var 2) (.lit 1))),(.int .i64 (.var 2)),(.int .i64 (.op .add (.app 30 (.cons zzb (.cons (.lit 1) .nil))) (.lit 1))),(.int .i64 (.app 30 (.cons (.var 3) (.cons (.lit 1) .nil))))]++aM zzb (.var 3)++bD (.op .sub (.op .add (.op .add (.var 4) (.var 4)) (.op .rem (.op .fdiv (.app 30 (.cons (.var 0) (.cons (.lit 1) .nil))) (.op .shl (.lit 1) (.op .rem (.var 2) (.lit 16)))) (.lit 2))) (.var 1)) (.var 4))):=by kernel_rfl
theorem aUh:cW Try.prog aSB = .ok (.agg ([(.int .i64 (.op .sub (.var 2) (.lit 1))),(.int .i64 (.var 2))]++bD zzb (.var 3)++[(.int .i64 (.op .add (.app 30 (.cons (.op .add (.var 4) (.var 4)) (.cons (.lit 1) .nil))) (.op .rem (.op .fdiv (.app 30 (.cons (.var 0) (.cons (.lit 65536) .nil))) (.op .shl (.lit 1) (.op .rem (.var 2) (.lit 16)))) (.lit 2)))),(.int .i64 (.app 30 (.cons (.var 4) (.cons (.lit 1) .nil))))]++aM (.op .add (.var 4) (.var 4)) (.var 4))):=by kernel_rfl
theorem aS3:cW Try.prog aOu = .ok (.agg ([(.int .i64 (.op .sub (.var 2) (.lit 1))),(.int .i64 (.var 2)),(.int .i64 (.op .add (.app 30 (.cons zzb (.cons (.lit 1) .nil))) (.lit 1))),(.int .i64 (.app 30 (.cons (.var 3) (.cons (.lit 1) .nil))))]++aM zzb (.var 3)++bD (.op .sub (.op .add (.op .add (.var 4) (.var 4)) (.op .rem (.op .fdiv (.app 30 (.cons (.var 0) (.cons (.lit 65536) .nil))) (.op .shl (.lit 1) (.op .rem (.var 2) (.lit 16)))) (.lit 2))) (.var 1)) (.var 4))):=by kernel_rfl
theorem aQw:cW Try.prog aPV = .ok (.agg ([(.int .i64 (.op .sub (.var 2) (.lit 1))),(.int .i64 (.var 2)),(.int .i64 (.op .add (.app 30 (.cons zzb (.cons (.lit 1) .nil))) (.lit 1))),(.int .i64 (.app 30 (.cons (.var 3) (.cons (.lit 1) .nil))))]++aM zzb (.var 3)++bD (.op .sub (.op .add (.op .add (.var 4) (.var 4)) (.op .rem (.op .fdiv (.app 30 (.cons (.var 0) (.cons (.lit 65536) .nil))) (.op .shl (.lit 1) (.op .rem (.var 2) (.lit 16)))) (.lit 2))) (.var 1)) (.var 4))):=by kernel_rfl
theorem aUE:cW Try.prog aPn = .ok (.agg ([(.int .i64 (.op .sub (.var 2) (.lit 1))),(.int .i64 (.var 2))]++bD zzb (.var 3)++[(.int .i64 (.op .add (.app 30 (.cons (.op .add (.var 4) (.var 4)) (.cons (.lit 1) .nil))) (.op .rem (.op .fdiv (.app 30 (.cons (.var 0) (.cons (.lit 4294967296) .nil))) (.op .shl (.lit 1) (.op .rem (.var 2) (.lit 16)))) (.lit 2)))),(.int .i64 (.app 30 (.cons (.var 4) (.cons (.lit 1) .nil))))]++aM (.op .add (.var 4) (.var 4)) (.var 4))):=by kernel_rfl
theorem aOK:cW Try.prog aSy = .ok (.agg ([(.int .i64 (.op .sub (.var 2) (.lit 1))),(.int .i64 (.var 2)),(.int .i64 (.op .add (.app 30 (.cons zzb (.cons (.lit 1) .nil))) (.lit 1))),(.int .i64 (.app 30 (.cons (.var 3) (.cons (.lit 1) .nil))))]++aM zzb (.var 3)++bD (.op .sub (.op .add (.op .add (.var 4) (.var 4)) (.op .rem (.op .fdiv (.app 30 (.cons (.var 0) (.cons (.lit 4294967296) .nil))) (.op .shl (.lit 1) (.op .rem (.var 2) (.lit 16)))) (.lit 2))) (.var 1)) (.var 4))):=by kernel_rfl
theorem aQA:cW Try.prog aTI = .ok (.agg ([(.int .i64 (.op .sub (.var 2) (.lit 1))),(.int .i64 (.var 2)),(.int .i64 (.op .add (.app 30 (.cons zzb (.cons (.lit 1) .nil))) (.lit 1))),(.int .i64 (.app 30 (.cons (.var 3) (.cons (.lit 1) .nil))))]++aM zzb (.var 3)++bD (.op .sub (.op .add (.op .add (.var 4) (.var 4)) (.op .rem (.op .fdiv (.app 30 (.cons (.var 0) (.cons (.lit 4294967296) .nil))) (.op .shl (.lit 1) (.op .rem (.var 2) (.lit 16)))) (.lit 2))) (.var 1)) (.var 4))):=by kernel_rfl
theorem aOp:cW Try.prog aQU = .ok (.agg ([(.int .i64 (.op .sub (.var 2) (.lit 1))),(.int .i64 (.var 2))]++bD zzb (.var 3)++[(.int .i64 (.op .add (.app 30 (.cons (.op .add (.var 4) (.var 4)) (.cons (.lit 1) .nil))) (.op .rem (.op .fdiv (.app 30 (.cons (.var 0) (.cons (.lit 281474976710656) .nil))) (.op .shl (.lit 1) (.op .rem (.var 2) (.lit 16)))) (.lit 2)))),(.int .i64 (.app 30 (.cons (.var 4) (.cons (.lit 1) .nil))))]++aM (.op .add (.var 4) (.var 4)) (.var 4))):=by kernel_rfl
theorem aSd:cW Try.prog aTM = .ok (.agg ([(.int .i64 (.op .sub (.var 2) (.lit 1))),(.int .i64 (.var 2)),(.int .i64 (.op .add (.app 30 (.cons zzb (.cons (.lit 1) .nil))) (.lit 1))),(.int .i64 (.app 30 (.cons (.var 3) (.cons (.lit 1) .nil))))]++aM zzb (.var 3)++bD (.op .sub (.op .add (.op .add (.var 4) (.var 4)) (.op .rem (.op .fdiv (.app 30 (.cons (.var 0) (.cons (.lit 281474976710656) .nil))) (.op .shl (.lit 1) (.op .rem (.var 2) (.lit 16)))) (.lit 2))) (.var 1)) (.var 4))):=by kernel_rfl
theorem aUv:cW Try.prog aTE = .ok (.agg ([(.int .i64 (.op .sub (.var 2) (.lit 1))),(.int .i64 (.var 2)),(.int .i64 (.op .add (.app 30 (.cons zzb (.cons (.lit 1) .nil))) (.lit 1))),(.int .i64 (.app 30 (.cons (.var 3) (.cons (.lit 1) .nil))))]++aM zzb (.var 3)++bD (.op .sub (.op .add (.op .add (.var 4) (.var 4)) (.op .rem (.op .fdiv (.app 30 (.cons (.var 0) (.cons (.lit 281474976710656) .nil))) (.op .shl (.lit 1) (.op .rem (.var 2) (.lit 16)))) (.lit 2))) (.var 1)) (.var 4))):=by kernel_rfl
theorem aRY:cW Try.prog aVP = .ok (.agg ([(.int .i64 (.op .sub (.var 2) (.lit 1))),(.int .i64 (.var 2))]++bD zzb (.var 3)++[(.int .i64 (.op .add (.app 30 (.cons (.op .add (.var 4) (.var 4)) (.cons (.lit 1) .nil))) (.op .rem (.op .fdiv (.app 30 (.cons (.var 0) (.cons (.lit zq4) .nil))) (.op .shl (.lit 1) (.op .rem (.var 2) (.lit 16)))) (.lit 2)))),(.int .i64 (.app 30 (.cons (.var 4) (.cons (.lit 1) .nil))))]++aM (.op .add (.var 4) (.var 4)) (.var 4))):=by kernel_rfl
theorem aU8:cW Try.prog aVX = .ok (.agg ([(.int .i64 (.op .sub (.var 2) (.lit 1))),(.int .i64 (.var 2)),(.int .i64 (.op .add (.app 30 (.cons zzb (.cons (.lit 1) .nil))) (.lit 1))),(.int .i64 (.app 30 (.cons (.var 3) (.cons (.lit 1) .nil))))]++aM zzb (.var 3)++bD (.op .sub (.op .add (.op .add (.var 4) (.var 4)) (.op .rem (.op .fdiv (.app 30 (.cons (.var 0) (.cons (.lit zq4) .nil))) (.op .shl (.lit 1) (.op .rem (.var 2) (.lit 16)))) (.lit 2))) (.var 1)) (.var 4))):=by kernel_rfl
theorem aRL:cW Try.prog aSs = .ok (.agg ([(.int .i64 (.op .sub (.var 2) (.lit 1))),(.int .i64 (.var 2)),(.int .i64 (.op .add (.app 30 (.cons zzb (.cons (.lit 1) .nil))) (.lit 1))),(.int .i64 (.app 30 (.cons (.var 3) (.cons (.lit 1) .nil))))]++aM zzb (.var 3)++bD (.op .sub (.op .add (.op .add (.var 4) (.var 4)) (.op .rem (.op .fdiv (.app 30 (.cons (.var 0) (.cons (.lit zq4) .nil))) (.op .shl (.lit 1) (.op .rem (.var 2) (.lit 16)))) (.lit 2))) (.var 1)) (.var 4))):=by kernel_rfl
set_option maxRecDepth 100000
open Go Go.RowKit Sx Wi
theorem aUk:cW Try.prog aTJ = .ok (.agg ([(.int .i64 (.op .sub (.var 2) (.lit 1))),(.int .i64 (.var 2))]++bD zzb (.var 3)++[(.int .i64 (.op .add (.app 30 (.cons (.op .add (.var 4) (.var 4)) (.cons (.lit 1) .nil))) (.op .rem (.op .fdiv (.app 30 (.cons (.var 0) (.cons (.lit zq5) .nil))) (.op .shl (.lit 1) (.op .rem (.var 2) (.lit 16)))) (.lit 2)))),(.int .i64 (.app 30 (.cons (.var 4) (.cons (.lit 1) .nil))))]++aM (.op .add (.var 4) (.var 4)) (.var 4))):=by kernel_rfl
theorem aVy:cW Try.prog aPQ = .ok (.agg ([(.int .i64 (.op .sub (.var 2) (.lit 1))),(.int .i64 (.var 2)),(.int .i64 (.op .add (.app 30 (.cons zzb (.cons (.lit 1) .nil))) (.lit 1))),(.int .i64 (.app 30 (.cons (.var 3) (.cons (.lit 1) .nil))))]++aM zzb (.var 3)++bD (.op .sub (.op .add (.op .add (.var 4) (.var 4)) (.op .rem (.op .fdiv (.app 30 (.cons (.var 0) (.cons (.lit zq5) .nil))) (.op .shl (.lit 1) (.op .rem (.var 2) (.lit 16)))) (.lit 2))) (.var 1)) (.var 4))):=by kernel_rfl
theorem aTx:cW Try.prog aPj = .ok (.agg ([(.int .i64 (.op .sub (.var 2) (.lit 1))),(.int .i64 (.var 2)),(.int .i64 (.op .add (.app 30 (.cons zzb (.cons (.lit 1) .nil))) (.lit 1))),(.int .i64 (.app 30 (.cons (.var 3) (.cons (.lit 1) .nil))))]++aM zzb (.var 3)++bD (.op .sub (.op .add (.op .add (.var 4) (.var 4)) (.op .rem (.op .fdiv (.app 30 (.cons (.var 0) (.cons (.lit zq5) .nil))) (.op .shl (.lit 1) (.op .rem (.var 2) (.lit 16)))) (.lit 2))) (.var 1)) (.var 4))):=by kernel_rfl
theorem aQG:cW Try.prog aP1 = .ok (.agg ([(.int .i64 (.op .sub (.var 2) (.lit 1))),(.int .i64 (.var 2))]++bD zzb (.var 3)++[(.int .i64 (.op .add (.app 30 (.cons (.op .add (.var 4) (.var 4)) (.cons (.lit 1) .nil))) (.op .rem (.op .fdiv (.app 30 (.cons (.var 0) (.cons (.lit zq6) .nil))) (.op .shl (.lit 1) (.op .rem (.var 2) (.lit 16)))) (.lit 2)))),(.int .i64 (.app 30 (.cons (.var 4) (.cons (.lit 1) .nil))))]++aM (.op .add (.var 4) (.var 4)) (.var 4))):=by kernel_rfl
theorem aVS:cW Try.prog aRz = .ok (.agg ([(.int .i64 (.op .sub (.var 2) (.lit 1))),(.int .i64 (.var 2)),(.int .i64 (.op .add (.app 30 (.cons zzb (.cons (.lit 1) .nil))) (.lit 1))),(.int .i64 (.app 30 (.cons (.var 3) (.cons (.lit 1) .nil))))]++aM zzb (.var 3)++bD (.op .sub (.op .add (.op .add (.var 4) (.var 4)) (.op .rem (.op .fdiv (.app 30 (.cons (.var 0) (.cons (.lit zq6) .nil))) (.op .shl (.lit 1) (.op .rem (.var 2) (.lit 16)))) (.lit 2))) (.var 1)) (.var 4))):=by kernel_rfl
theorem aRt:cW Try.prog aU4 = .ok (.agg ([(.int .i64 (.op .sub (.var 2) (.lit 1))),(.int .i64 (.var 2)),(.int .i64 (.op .add (.app 30 (.cons zzb (.cons (.lit 1) .nil))) (.lit 1))),(.int .i64 (.app 30 (.cons (.var 3) (.cons (.lit 1) .nil))))]++aM zzb (.var 3)++bD (.op .sub (.op .add (.op .add (.var 4) (.var 4)) (.op .rem (.op .fdiv (.app 30 (.cons (.var 0) (.cons (.lit zq6) .nil))) (.op .shl (.lit 1) (.op .rem (.var 2) (.lit 16)))) (.lit 2))) (.var 1)) (.var 4))):=by kernel_rfl
theorem aSr:cW Try.prog aTL = .ok (.agg ([(.int .i64 (.op .sub (.var 2) (.lit 1))),(.int .i64 (.var 2))]++bD zzb (.var 3)++[(.int .i64 (.op .add (.app 30 (.cons (.op .add (.var 4) (.var 4)) (.cons (.lit 1) .nil))) (.op .rem (.op .fdiv (.app 30 (.cons (.var 0) (.cons (.lit zq7) .nil))) (.op .shl (.lit 1) (.op .rem (.var 2) (.lit 16)))) (.lit 2)))),(.int .i64 (.app 30 (.cons (.var 4) (.cons (.lit 1) .nil))))]++aM (.op .add (.var 4) (.var 4)) (.var 4))):=by kernel_rfl
theorem aTY:cW Try.prog aQf = .ok (.agg ([(.int .i64 (.op .sub (.var 2) (.lit 1))),(.int .i64 (.var 2)),(.int .i64 (.op .add (.app 30 (.cons zzb (.cons (.lit 1) .nil))) (.lit 1))),(.int .i64 (.app 30 (.cons (.var 3) (.cons (.lit 1) .nil))))]++aM zzb (.var 3)++bD (.op .sub (.op .add (.op .add (.var 4) (.var 4)) (.op .rem (.op .fdiv (.app 30 (.cons (.var 0) (.cons (.lit zq7) .nil))) (.op .shl (.lit 1) (.op .rem (.var 2) (.lit 16)))) (.lit 2))) (.var 1)) (.var 4))):=by kernel_rfl
theorem aOQ:cW Try.prog aQp = .ok (.agg ([(.int .i64 (.op .sub (.var 2) (.lit 1))),(.int .i64 (.var 2)),(.int .i64 (.op .add (.app 30 (.cons zzb (.cons (.lit 1) .nil))) (.lit 1))),(.int .i64 (.app 30 (.cons (.var 3) (.cons (.lit 1) .nil))))]++aM zzb (.var 3)++bD (.op .sub (.op .add (.op .add (.var 4) (.var 4)) (.op .rem (.op .fdiv (.app 30 (.cons (.var 0) (.cons (.lit zq7) .nil))) (.op .shl (.lit 1) (.op .rem (.var 2) (.lit 16)))) (.lit 2))) (.var 1)) (.var 4))):=by kernel_rfl
theorem aVd:cW Try.prog aRZ = .ok (.agg ([(.int .i64 (.op .sub (.var 2) (.lit 1))),(.int .i64 (.var 2))]++bD zzb (.var 3)++[(.int .i64 (.op .add (.app 30 (.cons (.op .add (.var 4) (.var 4)) (.cons (.lit 1) .nil))) (.op .rem (.op .fdiv (.app 30 (.cons (.var 0) (.cons (.lit zq8) .nil))) (.op .shl (.lit 1) (.op .rem (.var 2) (.lit 16)))) (.lit 2)))),(.int .i64 (.app 30 (.cons (.var 4) (.cons (.lit 1) .nil))))]++aM (.op .add (.var 4) (.var 4)) (.var 4))):=by kernel_rfl
theorem aOL:cW Try.prog aTT = .ok (.agg ([(.int .i64 (.op .sub (.var 2) (.lit 1))),(.int .i64 (.var 2)),(.int .i64 (.op .add (.app 30 (.cons zzb (.cons (.lit 1) .nil))) (.lit 1))),(.int .i64 (.app 30 (.cons (.var 3) (.cons (.lit 1) .nil))))]++aM zzb (.var 3)++bD (.op .sub (.op .add (.op .add (.var 4) (.var 4)) (.op .rem (.op .fdiv (.app 30 (.cons (.var 0) (.cons (.lit zq8) .nil))) (.op .shl (.lit 1) (.op .rem (.var 2) (.lit 16)))) (.lit 2))) (.var 1)) (.var 4))):=by kernel_rfl
theorem aSC:cW Try.prog aVA = .ok (.agg ([(.int .i64 (.op .sub (.var 2) (.lit 1))),(.int .i64 (.var 2)),(.int .i64 (.op .add (.app 30 (.cons zzb (.cons (.lit 1) .nil))) (.lit 1))),(.int .i64 (.app 30 (.cons (.var 3) (.cons (.lit 1) .nil))))]++aM zzb (.var 3)++bD (.op .sub (.op .add (.op .add (.var 4) (.var 4)) (.op .rem (.op .fdiv (.app 30 (.cons (.var 0) (.cons (.lit zq8) .nil))) (.op .shl (.lit 1) (.op .rem (.var 2) (.lit 16)))) (.lit 2))) (.var 1)) (.var 4))):=by kernel_rfl
theorem aVk:cW Try.prog aPy = .ok (.agg ([(.int .i64 (.op .sub (.var 2) (.lit 1))),(.int .i64 (.var 2))]++bD zzb (.var 3)++[(.int .i64 (.op .add (.app 30 (.cons (.op .add (.var 4) (.var 4)) (.cons (.lit 1) .nil))) (.op .rem (.op .fdiv (.app 30 (.cons (.var 0) (.cons (.lit zq9) .nil))) (.op .shl (.lit 1) (.op .rem (.var 2) (.lit 16)))) (.lit 2)))),(.int .i64 (.app 30 (.cons (.var 4) (.cons (.lit 1) .nil))))]++aM (.op .add (.var 4) (.var 4)) (.var 4))):=by kernel_rfl
theorem aTv:cW Try.prog aON = .ok (.agg ([(.int .i64 (.op .sub (.var 2) (.lit 1))),(.int .i64 (.var 2)),(.int .i64 (.op .add (.app 30 (.cons zzb (.cons (.lit 1) .nil))) (.lit 1))),(.int .i64 (.app 30 (.cons (.var 3) (.cons (.lit 1) .nil))))]++aM zzb (.var 3)++bD (.op .sub (.op .add (.op .add (.var 4) (.var 4)) (.op .rem (.op .fdiv (.app 30 (.cons (.var 0) (.cons (.lit zq9) .nil))) (.op .shl (.lit 1) (.op .rem (.var 2) (.lit 16)))) (.lit 2))) (.var 1)) (.var 4))):=by kernel_rfl
theorem aUM:cW Try.prog aUt = .ok (.agg ([(.int .i64 (.op .sub (.var 2) (.lit 1))),(.int .i64 (.var 2)),(.int .i64 (.op .add (.app 30 (.cons zzb (.cons (.lit 1) .nil))) (.lit 1))),(.int .i64 (.app 30 (.cons (.var 3) (.cons (.lit 1) .nil))))]++aM zzb (.var 3)++bD (.op .sub (.op .add (.op .add (.var 4) (.var 4)) (.op .rem (.op .fdiv (.app 30 (.cons (.var 0) (.cons (.lit zq9) .nil))) (.op .shl (.lit 1) (.op .rem (.var 2) (.lit 16)))) (.lit 2))) (.var 1)) (.var 4))):=by kernel_rfl
set_option maxRecDepth 100000
open Go Go.RowKit Sx Wi
theorem aPU:cW Try.prog aTZ = .ok (.agg ([(.int .i64 (.op .sub (.var 2) (.lit 1))),(.int .i64 (.var 2))]++bD zzb (.var 3)++[(.int .i64 (.op .add (.app 30 (.cons (.op .add (.var 4) (.var 4)) (.cons (.lit 1) .nil))) (.op .rem (.op .fdiv (.app 30 (.cons (.var 0) (.cons (.lit zq10) .nil))) (.op .shl (.lit 1) (.op .rem (.var 2) (.lit 16)))) (.lit 2)))),(.int .i64 (.app 30 (.cons (.var 4) (.cons (.lit 1) .nil))))]++aM (.op .add (.var 4) (.var 4)) (.var 4))):=by kernel_rfl
theorem aR1:cW Try.prog aQF = .ok (.agg ([(.int .i64 (.op .sub (.var 2) (.lit 1))),(.int .i64 (.var 2)),(.int .i64 (.op .add (.app 30 (.cons zzb (.cons (.lit 1) .nil))) (.lit 1))),(.int .i64 (.app 30 (.cons (.var 3) (.cons (.lit 1) .nil))))]++aM zzb (.var 3)++bD (.op .sub (.op .add (.op .add (.var 4) (.var 4)) (.op .rem (.op .fdiv (.app 30 (.cons (.var 0) (.cons (.lit zq10) .nil))) (.op .shl (.lit 1) (.op .rem (.var 2) (.lit 16)))) (.lit 2))) (.var 1)) (.var 4))):=by kernel_rfl
theorem aTH:cW Try.prog aPg = .ok (.agg ([(.int .i64 (.op .sub (.var 2) (.lit 1))),(.int .i64 (.var 2)),(.int .i64 (.op .add (.app 30 (.cons zzb (.cons (.lit 1) .nil))) (.lit 1))),(.int .i64 (.app 30 (.cons (.var 3) (.cons (.lit 1) .nil))))]++aM zzb (.var 3)++bD (.op .sub (.op .add (.op .add (.var 4) (.var 4)) (.op .rem (.op .fdiv (.app 30 (.cons (.var 0) (.cons (.lit zq10) .nil))) (.op .shl (.lit 1) (.op .rem (.var 2) (.lit 16)))) (.lit 2))) (.var 1)) (.var 4))):=by kernel_rfl
theorem aOC:cW Try.prog aVU = .ok (.agg ([(.int .i64 (.op .sub (.var 2) (.lit 1))),(.int .i64 (.var 2))]++bD zzb (.var 3)++[(.int .i64 (.op .add (.app 30 (.cons (.op .add (.var 4) (.var 4)) (.cons (.lit 1) .nil))) (.op .rem (.op .fdiv (.app 30 (.cons (.var 0) (.cons (.lit zq11) .nil))) (.op .shl (.lit 1) (.op .rem (.var 2) (.lit 16)))) (.lit 2)))),(.int .i64 (.app 30 (.cons (.var 4) (.cons (.lit 1) .nil))))]++aM (.op .add (.var 4) (.var 4)) (.var 4))):=by kernel_rfl
theorem aSh:cW Try.prog aOD = .ok (.agg ([(.int .i64 (.op .sub (.var 2) (.lit 1))),(.int .i64 (.var 2)),(.int .i64 (.op .add (.app 30 (.cons zzb (.cons (.lit 1) .nil))) (.lit 1))),(.int .i64 (.app 30 (.cons (.var 3) (.cons (.lit 1) .nil))))]++aM zzb (.var 3)++bD (.op .sub (.op .add (.op .add (.var 4) (.var 4)) (.op .rem (.op .fdiv (.app 30 (.cons (.var 0) (.cons (.lit zq11) .nil))) (.op .shl (.lit 1) (.op .rem (.var 2) (.lit 16)))) (.lit 2))) (.var 1)) (.var 4))):=by kernel_rfl
theorem aUe:cW Try.prog aPW = .ok (.agg ([(.int .i64 (.op .sub (.var 2) (.lit 1))),(.int .i64 (.var 2)),(.int .i64 (.op .add (.app 30 (.cons zzb (.cons (.lit 1) .nil))) (.lit 1))),(.int .i64 (.app 30 (.cons (.var 3) (.cons (.lit 1) .nil))))]++aM zzb (.var 3)++bD (.op .sub (.op .add (.op .add (.var 4) (.var 4)) (.op .rem (.op .fdiv (.app 30 (.cons (.var 0) (.cons (.lit zq11) .nil))) (.op .shl (.lit 1) (.op .rem (.var 2) (.lit 16)))) (.lit 2))) (.var 1)) (.var 4))):=by kernel_rfl
theorem aOS:cW Try.prog aTz = .ok (.tuple [(.agg (bD (.var 3) (.op .quo (.var 0) (.var 1))++bD (.var 4) (.op .rem (.var 0) (.var 1)))),(.bool (.lit true))]):=by kernel_rfl
set_option maxRecDepth 100000
open Go Go.RowKit Sx Wi
def bDx (P:Program) (fs:List B):Res SV:=bK G GI [(0,1569275433846670190958947355801916604025588861116008628223),(1,1569275433846670190958947355801916604025588861116008628223)] fs (fun X=>kL P X GB jO aIV 3000 146 [.agg (aK (.var 0)),.agg (aK (.var 1))])
def bCI:List B:=[]
def bAZ:B:=(.cmp .eq (.lit 0) (.app 30 (.cons (.lit 0) (.cons (.lit 1) .nil))))
def bBM:List B:=aH bAZ++bCI
def bAU:B:=(.cmp .eq (.lit 0) (.app 30 (.cons (.lit 0) (.cons (.lit 65536) .nil))))
def bBV:List B:=aH bAU++bBM
def bCk:B:=(.cmp .eq (.lit 0) (.app 30 (.cons (.lit 0) (.cons (.lit 4294967296) .nil))))
def bAQ:List B:=aH bCk++bBV
def bCZ:B:=(.cmp .eq (.lit 0) (.app 30 (.cons (.lit 0) (.cons (.lit 281474976710656) .nil))))
def bDh:List B:=aH bCZ++bAQ
def bCR:B:=(.cmp .eq (.lit 0) (.app 30 (.cons (.lit 0) (.cons (.lit zq4) .nil))))
def bBY:List B:=aH bCR++bDh
def bB6:B:=(.cmp .eq (.lit 0) (.app 30 (.cons (.lit 0) (.cons (.lit zq5) .nil))))
def bC3:List B:=aH bB6++bBY
def bBn:B:=(.cmp .eq (.lit 0) (.app 30 (.cons (.lit 0) (.cons (.lit zq6) .nil))))
def bBg:List B:=aH bBn++bC3
def bC0:B:=(.cmp .eq (.lit 0) (.app 30 (.cons (.lit 0) (.cons (.lit zq7) .nil))))
def bCi:List B:=aH bC0++bBg
def bBz:B:=(.cmp .eq (.lit 0) (.app 30 (.cons (.lit 0) (.cons (.lit zq8) .nil))))
def bAx:List B:=aH bBz++bCi
def bBq:B:=(.cmp .eq (.lit 0) (.app 30 (.cons (.lit 0) (.cons (.lit zq9) .nil))))
def aWD:List B:=aH bBq++bAx
def aYW:B:=(.cmp .eq (.lit 0) (.app 30 (.cons (.lit 0) (.cons (.lit zq10) .nil))))
def aX2:List B:=aH aYW++aWD
def aYS:B:=(.cmp .eq (.lit 0) (.app 30 (.cons (.lit 0) (.cons (.lit zq11) .nil))))
def aXQ:List B:=aH aYS++aX2
theorem aWz:bDx Try.prog aXQ = .ok (.tuple [(.agg (aK (.op .quo (.var 0) (.var 1)))),(.agg (aK (.op .rem (.var 0) (.var 1))))]):=by kernel_rfl
end Go.Proofs.Ytkpdiehbaiepaaa
