/- What is proved: the run of a function over its ways,and what is known on each. No condition. -/
import Derived.Test.YtkpdiehbaiepaaaQa4
import Derived.Test.YtkpdiehbaiepaaaQNn
import Derived.Test.YtkpdiehbaiepaaaQa2
set_option linter.unusedSimpArgs false
set_option linter.unusedVariables false
set_option maxRecDepth 100000
namespace Go.Proofs.Ytkpdiehbaiepaaa
open Go Go.RowKit Sx Wi
def aXP (P:Program) (fs:List B):Res SV:=cM P 2 fs
def aTa:List B:=[]
theorem aSu:aXP Try.prog aTa = .ok (.agg [(.int .i64 (.app 30 (.cons (.op .mul (.app 33 (.cons (.var 2) (.cons (.lit 4294967296) .nil))) (.var 3)) (.cons (.lit 1) .nil)))),(.int .i64 (.app 30 (.cons (.op .mul (.app 33 (.cons (.var 2) (.cons (.lit 281474976710656) .nil))) (.var 3)) (.cons (.lit 1) .nil)))),(.int .i64 (.app 30 (.cons (.op .mul (.app 33 (.cons (.var 2) (.cons (.lit 4294967296) .nil))) (.var 3)) (.cons (.lit 65536) .nil)))),(.int .i64 (.app 30 (.cons (.op .mul (.app 33 (.cons (.var 2) (.cons (.lit 281474976710656) .nil))) (.var 3)) (.cons (.lit 65536) .nil)))),(.int .i64 (.op .rem (.op .add (.app 30 (.cons (.op .mul (.app 33 (.cons (.var 2) (.cons (.lit 4294967296) .nil))) (.var 3)) (.cons (.lit 4294967296) .nil))) (.op .mul (.app 30 (.cons (.var 2) (.cons (.lit 4294967296) .nil))) (.app 30 (.cons (.var 3) (.cons (.lit 1) .nil))))) (.lit 65536))),(.int .i64 (.app 30 (.cons (.op .mul (.app 33 (.cons (.var 2) (.cons (.lit 281474976710656) .nil))) (.var 3)) (.cons (.lit 4294967296) .nil)))),(.int .i64 (.op .rem (.op .add (.op .add (.op .quo (.op .add (.app 30 (.cons (.op .mul (.app 33 (.cons (.var 2) (.cons (.lit 4294967296) .nil))) (.var 3)) (.cons (.lit 4294967296) .nil))) (.op .mul (.app 30 (.cons (.var 2) (.cons (.lit 4294967296) .nil))) (.app 30 (.cons (.var 3) (.cons (.lit 1) .nil))))) (.lit 65536)) (.app 30 (.cons (.op .mul (.app 33 (.cons (.var 2) (.cons (.lit 4294967296) .nil))) (.var 3)) (.cons (.lit 281474976710656) .nil)))) (.op .mul (.app 30 (.cons (.var 2) (.cons (.lit 4294967296) .nil))) (.app 30 (.cons (.var 3) (.cons (.lit 65536) .nil))))) (.lit 65536))),(.int .i64 (.app 30 (.cons (.op .mul (.app 33 (.cons (.var 2) (.cons (.lit 281474976710656) .nil))) (.var 3)) (.cons (.lit 281474976710656) .nil)))),(.int .i64 (.op .rem (.op .add (.op .add (.op .quo (.op .add (.op .add (.op .quo (.op .add (.app 30 (.cons (.op .mul (.app 33 (.cons (.var 2) (.cons (.lit 4294967296) .nil))) (.var 3)) (.cons (.lit 4294967296) .nil))) (.op .mul (.app 30 (.cons (.var 2) (.cons (.lit 4294967296) .nil))) (.app 30 (.cons (.var 3) (.cons (.lit 1) .nil))))) (.lit 65536)) (.app 30 (.cons (.op .mul (.app 33 (.cons (.var 2) (.cons (.lit 4294967296) .nil))) (.var 3)) (.cons (.lit 281474976710656) .nil)))) (.op .mul (.app 30 (.cons (.var 2) (.cons (.lit 4294967296) .nil))) (.app 30 (.cons (.var 3) (.cons (.lit 65536) .nil))))) (.lit 65536)) (.app 30 (.cons (.op .mul (.app 33 (.cons (.var 2) (.cons (.lit 4294967296) .nil))) (.var 3)) (.cons (.lit zq4) .nil)))) (.op .mul (.app 30 (.cons (.var 2) (.cons (.lit 4294967296) .nil))) (.app 30 (.cons (.var 3) (.cons (.lit 4294967296) .nil))))) (.lit 65536))),(.int .i64 (.app 30 (.cons (.op .mul (.app 33 (.cons (.var 2) (.cons (.lit 281474976710656) .nil))) (.var 3)) (.cons (.lit zq4) .nil)))),(.int .i64 (.op .rem (.op .add (.op .add (.op .quo (.op .add (.op .add (.op .quo (.op .add (.op .add (.op .quo (.op .add (.app 30 (.cons (.op .mul (.app 33 (.cons (.var 2) (.cons (.lit 4294967296) .nil))) (.var 3)) (.cons (.lit 4294967296) .nil))) (.op .mul (.app 30 (.cons (.var 2) (.cons (.lit 4294967296) .nil))) (.app 30 (.cons (.var 3) (.cons (.lit 1) .nil))))) (.lit 65536)) (.app 30 (.cons (.op .mul (.app 33 (.cons (.var 2) (.cons (.lit 4294967296) .nil))) (.var 3)) (.cons (.lit 281474976710656) .nil)))) (.op .mul (.app 30 (.cons (.var 2) (.cons (.lit 4294967296) .nil))) (.app 30 (.cons (.var 3) (.cons (.lit 65536) .nil))))) (.lit 65536)) (.app 30 (.cons (.op .mul (.app 33 (.cons (.var 2) (.cons (.lit 4294967296) .nil))) (.var 3)) (.cons (.lit zq4) .nil)))) (.op .mul (.app 30 (.cons (.var 2) (.cons (.lit 4294967296) .nil))) (.app 30 (.cons (.var 3) (.cons (.lit 4294967296) .nil))))) (.lit 65536)) (.app 30 (.cons (.op .mul (.app 33 (.cons (.var 2) (.cons (.lit 4294967296) .nil))) (.var 3)) (.cons (.lit zq5) .nil)))) (.op .mul (.app 30 (.cons (.var 2) (.cons (.lit 4294967296) .nil))) (.app 30 (.cons (.var 3) (.cons (.lit 281474976710656) .nil))))) (.lit 65536))),(.int .i64 (.app 30 (.cons (.op .mul (.app 33 (.cons (.var 2) (.cons (.lit 281474976710656) .nil))) (.var 3)) (.cons (.lit zq5) .nil)))),(.int .i64 (.op .quo (.op .add (.op .add (.op .quo (.op .add (.op .add (.op .quo (.op .add (.op .add (.op .quo (.op .add (.app 30 (.cons (.op .mul (.app 33 (.cons (.var 2) (.cons (.lit 4294967296) .nil))) (.var 3)) (.cons (.lit 4294967296) .nil))) (.op .mul (.app 30 (.cons (.var 2) (.cons (.lit 4294967296) .nil))) (.app 30 (.cons (.var 3) (.cons (.lit 1) .nil))))) (.lit 65536)) (.app 30 (.cons (.op .mul (.app 33 (.cons (.var 2) (.cons (.lit 4294967296) .nil))) (.var 3)) (.cons (.lit 281474976710656) .nil)))) (.op .mul (.app 30 (.cons (.var 2) (.cons (.lit 4294967296) .nil))) (.app 30 (.cons (.var 3) (.cons (.lit 65536) .nil))))) (.lit 65536)) (.app 30 (.cons (.op .mul (.app 33 (.cons (.var 2) (.cons (.lit 4294967296) .nil))) (.var 3)) (.cons (.lit zq4) .nil)))) (.op .mul (.app 30 (.cons (.var 2) (.cons (.lit 4294967296) .nil))) (.app 30 (.cons (.var 3) (.cons (.lit 4294967296) .nil))))) (.lit 65536)) (.app 30 (.cons (.op .mul (.app 33 (.cons (.var 2) (.cons (.lit 4294967296) .nil))) (.var 3)) (.cons (.lit zq5) .nil)))) (.op .mul (.app 30 (.cons (.var 2) (.cons (.lit 4294967296) .nil))) (.app 30 (.cons (.var 3) (.cons (.lit 281474976710656) .nil))))) (.lit 65536))),(.int .i64 (.app 30 (.cons (.op .mul (.app 33 (.cons (.var 2) (.cons (.lit 281474976710656) .nil))) (.var 3)) (.cons (.lit zq6) .nil))))]):=by kernel_rfl
set_option maxRecDepth 100000
open Go Go.RowKit Sx Wi
def aXI (P:Program) (fs:List B):Res SV:=cM P 3 fs
def aQX:List B:=[]
theorem aQu:aXI Try.prog aQX = .ok (.agg [(.int .i64 (.app 30 (.cons (.op .mul (.app 33 (.cons (.var 2) (.cons (.lit 281474976710656) .nil))) (.var 3)) (.cons (.lit 1) .nil)))),(.int .i64 (.app 30 (.cons (.op .mul (.app 33 (.cons (.var 2) (.cons (.lit zq4) .nil))) (.var 3)) (.cons (.lit 1) .nil)))),(.int .i64 (.app 30 (.cons (.op .mul (.app 33 (.cons (.var 2) (.cons (.lit 281474976710656) .nil))) (.var 3)) (.cons (.lit 65536) .nil)))),(.int .i64 (.app 30 (.cons (.op .mul (.app 33 (.cons (.var 2) (.cons (.lit zq4) .nil))) (.var 3)) (.cons (.lit 65536) .nil)))),(.int .i64 (.app 30 (.cons (.op .mul (.app 33 (.cons (.var 2) (.cons (.lit 281474976710656) .nil))) (.var 3)) (.cons (.lit 4294967296) .nil)))),(.int .i64 (.app 30 (.cons (.op .mul (.app 33 (.cons (.var 2) (.cons (.lit zq4) .nil))) (.var 3)) (.cons (.lit 4294967296) .nil)))),(.int .i64 (.op .rem (.op .add (.app 30 (.cons (.op .mul (.app 33 (.cons (.var 2) (.cons (.lit 281474976710656) .nil))) (.var 3)) (.cons (.lit 281474976710656) .nil))) (.op .mul (.app 30 (.cons (.var 2) (.cons (.lit 281474976710656) .nil))) (.app 30 (.cons (.var 3) (.cons (.lit 1) .nil))))) (.lit 65536))),(.int .i64 (.app 30 (.cons (.op .mul (.app 33 (.cons (.var 2) (.cons (.lit zq4) .nil))) (.var 3)) (.cons (.lit 281474976710656) .nil)))),(.int .i64 (.op .rem (.op .add (.op .add (.op .quo (.op .add (.app 30 (.cons (.op .mul (.app 33 (.cons (.var 2) (.cons (.lit 281474976710656) .nil))) (.var 3)) (.cons (.lit 281474976710656) .nil))) (.op .mul (.app 30 (.cons (.var 2) (.cons (.lit 281474976710656) .nil))) (.app 30 (.cons (.var 3) (.cons (.lit 1) .nil))))) (.lit 65536)) (.app 30 (.cons (.op .mul (.app 33 (.cons (.var 2) (.cons (.lit 281474976710656) .nil))) (.var 3)) (.cons (.lit zq4) .nil)))) (.op .mul (.app 30 (.cons (.var 2) (.cons (.lit 281474976710656) .nil))) (.app 30 (.cons (.var 3) (.cons (.lit 65536) .nil))))) (.lit 65536))),(.int .i64 (.app 30 (.cons (.op .mul (.app 33 (.cons (.var 2) (.cons (.lit zq4) .nil))) (.var 3)) (.cons (.lit zq4) .nil)))),(.int .i64 (.op .rem (.op .add (.op .add (.op .quo (.op .add (.op .add (.op .quo (.op .add (.app 30 (.cons (.op .mul (.app 33 (.cons (.var 2) (.cons (.lit 281474976710656) .nil))) (.var 3)) (.cons (.lit 281474976710656) .nil))) (.op .mul (.app 30 (.cons (.var 2) (.cons (.lit 281474976710656) .nil))) (.app 30 (.cons (.var 3) (.cons (.lit 1) .nil))))) (.lit 65536)) (.app 30 (.cons (.op .mul (.app 33 (.cons (.var 2) (.cons (.lit 281474976710656) .nil))) (.var 3)) (.cons (.lit zq4) .nil)))) (.op .mul (.app 30 (.cons (.var 2) (.cons (.lit 281474976710656) .nil))) (.app 30 (.cons (.var 3) (.cons (.lit 65536) .nil))))) (.lit 65536)) (.app 30 (.cons (.op .mul (.app 33 (.cons (.var 2) (.cons (.lit 281474976710656) .nil))) (.var 3)) (.cons (.lit zq5) .nil)))) (.op .mul (.app 30 (.cons (.var 2) (.cons (.lit 281474976710656) .nil))) (.app 30 (.cons (.var 3) (.cons (.lit 4294967296) .nil))))) (.lit 65536))),(.int .i64 (.app 30 (.cons (.op .mul (.app 33 (.cons (.var 2) (.cons (.lit zq4) .nil))) (.var 3)) (.cons (.lit zq5) .nil)))),(.int .i64 (.op .rem (.op .add (.op .add (.op .quo (.op .add (.op .add (.op .quo (.op .add (.op .add (.op .quo (.op .add (.app 30 (.cons (.op .mul (.app 33 (.cons (.var 2) (.cons (.lit 281474976710656) .nil))) (.var 3)) (.cons (.lit 281474976710656) .nil))) (.op .mul (.app 30 (.cons (.var 2) (.cons (.lit 281474976710656) .nil))) (.app 30 (.cons (.var 3) (.cons (.lit 1) .nil))))) (.lit 65536)) (.app 30 (.cons (.op .mul (.app 33 (.cons (.var 2) (.cons (.lit 281474976710656) .nil))) (.var 3)) (.cons (.lit zq4) .nil)))) (.op .mul (.app 30 (.cons (.var 2) (.cons (.lit 281474976710656) .nil))) (.app 30 (.cons (.var 3) (.cons (.lit 65536) .nil))))) (.lit 65536)) (.app 30 (.cons (.op .mul (.app 33 (.cons (.var 2) (.cons (.lit 281474976710656) .nil))) (.var 3)) (.cons (.lit zq5) .nil)))) (.op .mul (.app 30 (.cons (.var 2) (.cons (.lit 281474976710656) .nil))) (.app 30 (.cons (.var 3) (.cons (.lit 4294967296) .nil))))) (.lit 65536)) (.app 30 (.cons (.op .mul (.app 33 (.cons (.var 2) (.cons (.lit 281474976710656) .nil))) (.var 3)) (.cons (.lit zq6) .nil)))) (.op .mul (.app 30 (.cons (.var 2) (.cons (.lit 281474976710656) .nil))) (.app 30 (.cons (.var 3) (.cons (.lit 281474976710656) .nil))))) (.lit 65536))),(.int .i64 (.app 30 (.cons (.op .mul (.app 33 (.cons (.var 2) (.cons (.lit zq4) .nil))) (.var 3)) (.cons (.lit zq6) .nil)))),(.int .i64 (.op .quo (.op .add (.op .add (.op .quo (.op .add (.op .add (.op .quo (.op .add (.op .add (.op .quo (.op .add (.app 30 (.cons (.op .mul (.app 33 (.cons (.var 2) (.cons (.lit 281474976710656) .nil))) (.var 3)) (.cons (.lit 281474976710656) .nil))) (.op .mul (.app 30 (.cons (.var 2) (.cons (.lit 281474976710656) .nil))) (.app 30 (.cons (.var 3) (.cons (.lit 1) .nil))))) (.lit 65536)) (.app 30 (.cons (.op .mul (.app 33 (.cons (.var 2) (.cons (.lit 281474976710656) .nil))) (.var 3)) (.cons (.lit zq4) .nil)))) (.op .mul (.app 30 (.cons (.var 2) (.cons (.lit 281474976710656) .nil))) (.app 30 (.cons (.var 3) (.cons (.lit 65536) .nil))))) (.lit 65536)) (.app 30 (.cons (.op .mul (.app 33 (.cons (.var 2) (.cons (.lit 281474976710656) .nil))) (.var 3)) (.cons (.lit zq5) .nil)))) (.op .mul (.app 30 (.cons (.var 2) (.cons (.lit 281474976710656) .nil))) (.app 30 (.cons (.var 3) (.cons (.lit 4294967296) .nil))))) (.lit 65536)) (.app 30 (.cons (.op .mul (.app 33 (.cons (.var 2) (.cons (.lit 281474976710656) .nil))) (.var 3)) (.cons (.lit zq6) .nil)))) (.op .mul (.app 30 (.cons (.var 2) (.cons (.lit 281474976710656) .nil))) (.app 30 (.cons (.var 3) (.cons (.lit 281474976710656) .nil))))) (.lit 65536))),(.int .i64 (.app 30 (.cons (.op .mul (.app 33 (.cons (.var 2) (.cons (.lit zq4) .nil))) (.var 3)) (.cons (.lit zq7) .nil))))]):=by kernel_rfl
set_option maxRecDepth 100000
open Go Go.RowKit Sx Wi
def aXi (P:Program) (fs:List B):Res SV:=cM P 4 fs
def aQV:List B:=[]
theorem aPX:aXi Try.prog aQV = .ok (.agg []):=by kernel_rfl
set_option maxRecDepth 100000
open Go Go.RowKit Sx Wi
def aXp (P:Program) (fs:List B):Res SV:=cM P 5 fs
def aQl:List B:=[]
theorem aOZ:aXp Try.prog aQl = .ok (.agg []):=by kernel_rfl
set_option maxRecDepth 100000
open Go Go.RowKit Sx Wi
def aXJ (P:Program) (fs:List B):Res SV:=cM P 6 fs
def aSn:List B:=[]
theorem aSM:aXJ Try.prog aSn = .ok (.agg []):=by kernel_rfl
set_option maxRecDepth 100000
open Go Go.RowKit Sx Wi
def aYk (P:Program) (fs:List B):Res SV:=cM P 7 fs
def aT6:List B:=[]
theorem aRF:aYk Try.prog aT6 = .ok (.agg []):=by kernel_rfl
set_option maxRecDepth 100000
open Go Go.RowKit Sx Wi
def aY6 (P:Program) (fs:List B):Res SV:=cM P 8 fs
def aU7:List B:=[]
theorem aP7:aY6 Try.prog aU7 = .ok (.agg []):=by kernel_rfl
set_option maxRecDepth 100000
open Go Go.RowKit Sx Wi
def aZe (P:Program) (fs:List B):Res SV:=cM P 9 fs
def aVx:List B:=[]
theorem aUp:aZe Try.prog aVx = .ok (.agg []):=by kernel_rfl
set_option maxRecDepth 100000
open Go Go.RowKit Sx Wi
def aS7 (P:Program) (fs:List B):Res SV:=cM P 10 fs
def aNB:List B:=[]
theorem aME:aS7 Try.prog aNB = .ok (.agg []):=by kernel_rfl
set_option maxRecDepth 100000
open Go Go.RowKit Sx Wi
def aTg (P:Program) (fs:List B):Res SV:=cM P 11 fs
def aMK:List B:=[]
theorem aM6:aTg Try.prog aMK = .ok (.agg []):=by kernel_rfl
set_option maxRecDepth 100000
open Go Go.RowKit Sx Wi
def aPt (P:Program) (fs:List B):Res SV:=cM P 12 fs
def aN4:List B:=[]
theorem aMB:aPt Try.prog aN4 = .ok (.tuple [(.agg [(.int .i64 (.app 30 (.cons (.op .mul (.app 33 (.cons (.var 2) (.cons (.lit zq4) .nil))) (.var 3)) (.cons (.lit 1) .nil)))),(.int .i64 (.app 30 (.cons (.op .mul (.var 2) (.var 3)) (.cons (.lit 1) .nil)))),(.int .i64 (.app 30 (.cons (.op .mul (.app 33 (.cons (.var 2) (.cons (.lit zq4) .nil))) (.var 3)) (.cons (.lit 65536) .nil)))),(.int .i64 (.app 30 (.cons (.op .mul (.var 2) (.var 3)) (.cons (.lit 65536) .nil)))),(.int .i64 (.app 30 (.cons (.op .mul (.app 33 (.cons (.var 2) (.cons (.lit zq4) .nil))) (.var 3)) (.cons (.lit 4294967296) .nil)))),(.int .i64 (.app 30 (.cons (.op .mul (.var 2) (.var 3)) (.cons (.lit 4294967296) .nil)))),(.int .i64 (.app 30 (.cons (.op .mul (.app 33 (.cons (.var 2) (.cons (.lit zq4) .nil))) (.var 3)) (.cons (.lit 281474976710656) .nil)))),(.int .i64 (.app 30 (.cons (.op .mul (.var 2) (.var 3)) (.cons (.lit 281474976710656) .nil)))),(.int .i64 (.app 30 (.cons (.op .mul (.app 33 (.cons (.var 2) (.cons (.lit zq4) .nil))) (.var 3)) (.cons (.lit zq4) .nil)))),(.int .i64 (.app 30 (.cons (.op .mul (.var 2) (.var 3)) (.cons (.lit zq4) .nil)))),(.int .i64 (.app 30 (.cons (.op .mul (.app 33 (.cons (.var 2) (.cons (.lit zq4) .nil))) (.var 3)) (.cons (.lit zq5) .nil)))),(.int .i64 (.app 30 (.cons (.op .mul (.var 2) (.var 3)) (.cons (.lit zq5) .nil)))),(.int .i64 (.app 30 (.cons (.op .mul (.app 33 (.cons (.var 2) (.cons (.lit zq4) .nil))) (.var 3)) (.cons (.lit zq6) .nil)))),(.int .i64 (.app 30 (.cons (.op .mul (.var 2) (.var 3)) (.cons (.lit zq6) .nil)))),(.int .i64 (.app 30 (.cons (.op .mul (.app 33 (.cons (.var 2) (.cons (.lit zq4) .nil))) (.var 3)) (.cons (.lit zq7) .nil)))),(.int .i64 (.app 30 (.cons (.op .mul (.var 2) (.var 3)) (.cons (.lit zq7) .nil)))),(.int .i64 (.lit 0)),(.int .i64 (.app 30 (.cons (.op .mul (.var 2) (.var 3)) (.cons (.lit zq8) .nil)))),(.int .i64 (.lit 0)),(.int .i64 (.app 30 (.cons (.op .mul (.var 2) (.var 3)) (.cons (.lit zq9) .nil)))),(.int .i64 (.lit 0)),(.int .i64 (.app 30 (.cons (.op .mul (.var 2) (.var 3)) (.cons (.lit zq10) .nil)))),(.int .i64 (.lit 0)),(.int .i64 (.app 30 (.cons (.op .mul (.var 2) (.var 3)) (.cons (.lit zq11) .nil))))]),(.bool (.lit true))]):=by kernel_rfl
set_option maxRecDepth 100000
open Go Go.RowKit Sx Wi
def bB3 (P:Program) (fs:List B):Res SV:=bK G GI [(0,1),(0,1),(0,18446744073709551615),(0,18446744073709551615)] fs (fun X=>kL P X GB jZ aB6 3000 137 [.agg (.bool (.cmp .ne (.var 0) (.lit 0))::dU (.var 2)),.agg (.bool (.cmp .ne (.var 1) (.lit 0))::dU (.var 3))])
def aWa:List B:=[]
theorem aWL:bB3 Try.prog aWa = .ok (.agg ([(.bool (.and (.or (.cmp .eq (.var 0) (.lit 0)) (.cmp .eq (.var 1) (.lit 0))) (.or (.cmp .ne (.var 0) (.lit 0)) (.cmp .ne (.var 1) (.lit 0)))))]++aK (.op .mul (.var 2) (.var 3)))):=by kernel_rfl
open Go Go.RowKit Sx Nu Wi
set_option maxHeartbeats 8000000 in
set_option maxRecDepth 100000 in
theorem aW5 (x0 x1 x2 x3:Int) (b0:0≤x0∧x0≤1) (b1:0≤x1∧x1≤1) (b2:0≤x2∧x2≤18446744073709551615) (b3:0≤x3∧x3≤18446744073709551615):Sx.jH (cM Try.prog 0) G (bT [x0,x1,x2,x3]) (dL G (bT [x0,x1,x2,x3]) (bT [x0,x1,x2,x3]) 99 (.lit true) (decide (0<12))) []:=by
 refine aE aO9 ?_
 refine⟨by decide,?_⟩;(simp only[aJ]);simp only[nn,G,wG,nq]at *;have hb:=eR x3 b3.1 (by omega);have zb4:dg x3 18446744073709551616=0:=(by unfold dg;omega);have zb5:dg x3 1208925819614629174706176=0:=(by unfold dg;omega);have zb6:dg x3 79228162514264337593543950336=0:=(by unfold dg;omega);have zb7:dg x3 5192296858534827628530496329220096=0:=(by unfold dg;omega);have zb8:dg x3 340282366920938463463374607431768211456=0:=(by unfold dg;omega);have zb9:dg x3 22300745198530623141535718272648361505980416=0:=(by unfold dg;omega);have zb10:dg x3 1461501637330902918203684832716283019655932542976=0:=(by unfold dg;omega);have zb11:dg x3 95780971304118053647396689196894323976171195136475136=0:=(by unfold dg;omega);rw[zb4,zb5,zb6,zb7,zb8,zb9,zb10,zb11]at hb;simp only[Int.mul_zero,Int.add_zero]at hb;have db0:=dg_bd x3 1;generalize dg x3 1=b0_ at *;have db1:=dg_bd x3 65536;generalize dg x3 65536=b1_ at *;have db2:=dg_bd x3 4294967296;generalize dg x3 4294967296=b2_ at *;have db3:=dg_bd x3 281474976710656;generalize dg x3 281474976710656=b3_ at *;have lo:x2 % 65536=x2 % 1+1*dg x2 1:=(by have q:=iT x2 1 (by decide);simpa using q);have l0:=Int.emod_nonneg x2 (show (1:Int)≠0 by decide);have l1:=Int.emod_lt_of_pos x2 (show (0:Int)<1 by decide);have da:=dg_bd x2 1;generalize dg x2 1=a at *;generalize x2 % 1=ll at *;have e1:x2 % 65536*x3=ll*x3+1*(a*x3):=(by rw[lo];grind);have p0:0≤ll*x3:=Int.mul_nonneg l0 b3.1;have p1:ll*x3≤0*18446744073709551615:=Int.mul_le_mul (show ll≤0 by omega) b3.2 b3.1 (by omega);have hax:a*x3=a*b0_+65536*(a*b1_)+4294967296*(a*b2_)+281474976710656*(a*b3_):=(by rw[hb];grind);rw[e1];generalize ll*x3=pp at *;rw[hax]at *;have n0:=Int.mul_nonneg da.1 db0.1;have m0:=Int.mul_le_mul (show a≤65535 by omega) (show b0_≤65535 by omega) db0.1 (show (0:Int)≤65535 by omega);generalize a*b0_=q0 at *;have n1:=Int.mul_nonneg da.1 db1.1;have m1:=Int.mul_le_mul (show a≤65535 by omega) (show b1_≤65535 by omega) db1.1 (show (0:Int)≤65535 by omega);generalize a*b1_=q1 at *;have n2:=Int.mul_nonneg da.1 db2.1;have m2:=Int.mul_le_mul (show a≤65535 by omega) (show b2_≤65535 by omega) db2.1 (show (0:Int)≤65535 by omega);generalize a*b2_=q2 at *;have n3:=Int.mul_nonneg da.1 db3.1;have m3:=Int.mul_le_mul (show a≤65535 by omega) (show b3_≤65535 by omega) db3.1 (show (0:Int)≤65535 by omega);generalize a*b3_=q3 at *;have pz:pp=0:=(by omega);have t0:=tdm q0 (by omega);generalize Int.tdiv q0 65536=k0 at *;generalize Int.tmod q0 65536=r0 at *;have t1:=tdm (k0+q1) (by omega);generalize Int.tdiv (k0+q1) 65536=k1 at *;generalize Int.tmod (k0+q1) 65536=r1 at *;have t2:=tdm (k1+q2) (by omega);generalize Int.tdiv (k1+q2) 65536=k2 at *;generalize Int.tmod (k1+q2) 65536=r2 at *;have t3:=tdm (k2+q3) (by omega);generalize Int.tdiv (k2+q3) 65536=k3 at *;generalize Int.tmod (k2+q3) 65536=r3 at *;have top:k3≤65535:=(by omega);have es:pp+1*(q0+65536*q1+4294967296*q2+281474976710656*q3)=r0+65536*r1+4294967296*r2+281474976710656*r3+18446744073709551616*k3+1208925819614629174706176*0+79228162514264337593543950336*0+5192296858534827628530496329220096*0+340282366920938463463374607431768211456*0+22300745198530623141535718272648361505980416*0+1461501637330902918203684832716283019655932542976*0+95780971304118053647396689196894323976171195136475136*0:=(by omega);rw[es];obtain⟨s0,s1,s2,s3,s4,s5,s6,s7,s8,s9,s10,s11⟩:=nS r0 r1 r2 r3 k3 0 0 0 0 0 0 0 (by omega) (by omega) (by omega) (by omega) (by omega) (by omega) (by omega) (by omega) (by omega) (by omega) (by omega) (by omega);(repeat' refine And.intro ?_ ?_)<;>first|trivial|exact s0.symm|exact s1.symm|exact s2.symm|exact s3.symm|exact s4.symm|exact s5.symm|exact s6.symm|exact s7.symm|exact s8.symm|exact s9.symm|exact s10.symm|exact s11.symm|exact s0|exact s1|exact s2|exact s3|exact s4|exact s5|exact s6|exact s7|exact s8|exact s9|exact s10|exact s11
set_option maxHeartbeats 8000000 in
set_option maxRecDepth 100000 in
theorem aXn (x0 x1 x2 x3:Int) (b0:0≤x0∧x0≤1) (b1:0≤x1∧x1≤1) (b2:0≤x2∧x2≤18446744073709551615) (b3:0≤x3∧x3≤18446744073709551615):Sx.jH (cM Try.prog 1) G (bT [x0,x1,x2,x3]) (dL G (bT [x0,x1,x2,x3]) (bT [x0,x1,x2,x3]) 99 (.lit true) (decide (1<12))) []:=by
 refine aE aVi ?_
 refine⟨by decide,?_⟩;(simp only[aJ]);simp only[nn,G,wG,nq]at *;have hb:=eR x3 b3.1 (by omega);have zb4:dg x3 18446744073709551616=0:=(by unfold dg;omega);have zb5:dg x3 1208925819614629174706176=0:=(by unfold dg;omega);have zb6:dg x3 79228162514264337593543950336=0:=(by unfold dg;omega);have zb7:dg x3 5192296858534827628530496329220096=0:=(by unfold dg;omega);have zb8:dg x3 340282366920938463463374607431768211456=0:=(by unfold dg;omega);have zb9:dg x3 22300745198530623141535718272648361505980416=0:=(by unfold dg;omega);have zb10:dg x3 1461501637330902918203684832716283019655932542976=0:=(by unfold dg;omega);have zb11:dg x3 95780971304118053647396689196894323976171195136475136=0:=(by unfold dg;omega);rw[zb4,zb5,zb6,zb7,zb8,zb9,zb10,zb11]at hb;simp only[Int.mul_zero,Int.add_zero]at hb;have db0:=dg_bd x3 1;generalize dg x3 1=b0_ at *;have db1:=dg_bd x3 65536;generalize dg x3 65536=b1_ at *;have db2:=dg_bd x3 4294967296;generalize dg x3 4294967296=b2_ at *;have db3:=dg_bd x3 281474976710656;generalize dg x3 281474976710656=b3_ at *;have lo:x2 % 4294967296=x2 % 65536+65536*dg x2 65536:=(by have q:=iT x2 65536 (by decide);simpa using q);have l0:=Int.emod_nonneg x2 (show (65536:Int)≠0 by decide);have l1:=Int.emod_lt_of_pos x2 (show (0:Int)<65536 by decide);have da:=dg_bd x2 65536;generalize dg x2 65536=a at *;generalize x2 % 65536=ll at *;have e1:x2 % 4294967296*x3=ll*x3+65536*(a*x3):=(by rw[lo];grind);have p0:0≤ll*x3:=Int.mul_nonneg l0 b3.1;have p1:ll*x3≤65535*18446744073709551615:=Int.mul_le_mul (show ll≤65535 by omega) b3.2 b3.1 (by omega);have hax:a*x3=a*b0_+65536*(a*b1_)+4294967296*(a*b2_)+281474976710656*(a*b3_):=(by rw[hb];grind);rw[e1];generalize ll*x3=pp at *;rw[hax]at *;have n0:=Int.mul_nonneg da.1 db0.1;have m0:=Int.mul_le_mul (show a≤65535 by omega) (show b0_≤65535 by omega) db0.1 (show (0:Int)≤65535 by omega);generalize a*b0_=q0 at *;have n1:=Int.mul_nonneg da.1 db1.1;have m1:=Int.mul_le_mul (show a≤65535 by omega) (show b1_≤65535 by omega) db1.1 (show (0:Int)≤65535 by omega);generalize a*b1_=q1 at *;have n2:=Int.mul_nonneg da.1 db2.1;have m2:=Int.mul_le_mul (show a≤65535 by omega) (show b2_≤65535 by omega) db2.1 (show (0:Int)≤65535 by omega);generalize a*b2_=q2 at *;have n3:=Int.mul_nonneg da.1 db3.1;have m3:=Int.mul_le_mul (show a≤65535 by omega) (show b3_≤65535 by omega) db3.1 (show (0:Int)≤65535 by omega);generalize a*b3_=q3 at *;have hp:=eR pp p0 (by omega);have zp5:dg pp 1208925819614629174706176=0:=(by unfold dg;omega);have zp6:dg pp 79228162514264337593543950336=0:=(by unfold dg;omega);have zp7:dg pp 5192296858534827628530496329220096=0:=(by unfold dg;omega);have zp8:dg pp 340282366920938463463374607431768211456=0:=(by unfold dg;omega);have zp9:dg pp 22300745198530623141535718272648361505980416=0:=(by unfold dg;omega);have zp10:dg pp 1461501637330902918203684832716283019655932542976=0:=(by unfold dg;omega);have zp11:dg pp 95780971304118053647396689196894323976171195136475136=0:=(by unfold dg;omega);rw[zp5,zp6,zp7,zp8,zp9,zp10,zp11]at hp;simp only[Int.mul_zero,Int.add_zero]at hp;have dp0:=dg_bd pp 1;generalize dg pp 1=c0 at *;have dp1:=dg_bd pp 65536;generalize dg pp 65536=c1 at *;have dp2:=dg_bd pp 4294967296;generalize dg pp 4294967296=c2 at *;have dp3:=dg_bd pp 281474976710656;generalize dg pp 281474976710656=c3 at *;have dp4:=dg_bd pp 18446744073709551616;generalize dg pp 18446744073709551616=c4 at *;have t1:=tdm (c1+q0) (by omega);generalize Int.tdiv (c1+q0) 65536=k1 at *;generalize Int.tmod (c1+q0) 65536=r1 at *;have t2:=tdm ((k1+c2)+q1) (by omega);generalize Int.tdiv ((k1+c2)+q1) 65536=k2 at *;generalize Int.tmod ((k1+c2)+q1) 65536=r2 at *;have t3:=tdm ((k2+c3)+q2) (by omega);generalize Int.tdiv ((k2+c3)+q2) 65536=k3 at *;generalize Int.tmod ((k2+c3)+q2) 65536=r3 at *;have t4:=tdm ((k3+c4)+q3) (by omega);generalize Int.tdiv ((k3+c4)+q3) 65536=k4 at *;generalize Int.tmod ((k3+c4)+q3) 65536=r4 at *;have top:k4≤65535:=(by omega);have es:pp+65536*(q0+65536*q1+4294967296*q2+281474976710656*q3)=c0+65536*r1+4294967296*r2+281474976710656*r3+18446744073709551616*r4+1208925819614629174706176*k4+79228162514264337593543950336*0+5192296858534827628530496329220096*0+340282366920938463463374607431768211456*0+22300745198530623141535718272648361505980416*0+1461501637330902918203684832716283019655932542976*0+95780971304118053647396689196894323976171195136475136*0:=(by omega);rw[es];obtain⟨s0,s1,s2,s3,s4,s5,s6,s7,s8,s9,s10,s11⟩:=nS c0 r1 r2 r3 r4 k4 0 0 0 0 0 0 (by omega) (by omega) (by omega) (by omega) (by omega) (by omega) (by omega) (by omega) (by omega) (by omega) (by omega) (by omega);(repeat' refine And.intro ?_ ?_)<;>first|trivial|exact s0.symm|exact s1.symm|exact s2.symm|exact s3.symm|exact s4.symm|exact s5.symm|exact s6.symm|exact s7.symm|exact s8.symm|exact s9.symm|exact s10.symm|exact s11.symm|exact s0|exact s1|exact s2|exact s3|exact s4|exact s5|exact s6|exact s7|exact s8|exact s9|exact s10|exact s11
set_option maxHeartbeats 8000000 in
set_option maxRecDepth 100000 in
theorem aYx (x0 x1 x2 x3:Int) (b0:0≤x0∧x0≤1) (b1:0≤x1∧x1≤1) (b2:0≤x2∧x2≤18446744073709551615) (b3:0≤x3∧x3≤18446744073709551615):Sx.jH (cM Try.prog 2) G (bT [x0,x1,x2,x3]) (dL G (bT [x0,x1,x2,x3]) (bT [x0,x1,x2,x3]) 99 (.lit true) (decide (2<12))) []:=by
 refine aE aSu ?_
 refine⟨by decide,?_⟩;(simp only[aJ]);simp only[nn,G,wG,nq]at *;have hb:=eR x3 b3.1 (by omega);have zb4:dg x3 18446744073709551616=0:=(by unfold dg;omega);have zb5:dg x3 1208925819614629174706176=0:=(by unfold dg;omega);have zb6:dg x3 79228162514264337593543950336=0:=(by unfold dg;omega);have zb7:dg x3 5192296858534827628530496329220096=0:=(by unfold dg;omega);have zb8:dg x3 340282366920938463463374607431768211456=0:=(by unfold dg;omega);have zb9:dg x3 22300745198530623141535718272648361505980416=0:=(by unfold dg;omega);have zb10:dg x3 1461501637330902918203684832716283019655932542976=0:=(by unfold dg;omega);have zb11:dg x3 95780971304118053647396689196894323976171195136475136=0:=(by unfold dg;omega);rw[zb4,zb5,zb6,zb7,zb8,zb9,zb10,zb11]at hb;simp only[Int.mul_zero,Int.add_zero]at hb;have db0:=dg_bd x3 1;generalize dg x3 1=b0_ at *;have db1:=dg_bd x3 65536;generalize dg x3 65536=b1_ at *;have db2:=dg_bd x3 4294967296;generalize dg x3 4294967296=b2_ at *;have db3:=dg_bd x3 281474976710656;generalize dg x3 281474976710656=b3_ at *;have lo:x2 % 281474976710656=x2 % 4294967296+4294967296*dg x2 4294967296:=(by have q:=iT x2 4294967296 (by decide);simpa using q);have l0:=Int.emod_nonneg x2 (show (4294967296:Int)≠0 by decide);have l1:=Int.emod_lt_of_pos x2 (show (0:Int)<4294967296 by decide);have da:=dg_bd x2 4294967296;generalize dg x2 4294967296=a at *;generalize x2 % 4294967296=ll at *;have e1:x2 % 281474976710656*x3=ll*x3+4294967296*(a*x3):=(by rw[lo];grind);have p0:0≤ll*x3:=Int.mul_nonneg l0 b3.1;have p1:ll*x3≤4294967295*18446744073709551615:=Int.mul_le_mul (show ll≤4294967295 by omega) b3.2 b3.1 (by omega);have hax:a*x3=a*b0_+65536*(a*b1_)+4294967296*(a*b2_)+281474976710656*(a*b3_):=(by rw[hb];grind);rw[e1];generalize ll*x3=pp at *;rw[hax]at *;have n0:=Int.mul_nonneg da.1 db0.1;have m0:=Int.mul_le_mul (show a≤65535 by omega) (show b0_≤65535 by omega) db0.1 (show (0:Int)≤65535 by omega);generalize a*b0_=q0 at *;have n1:=Int.mul_nonneg da.1 db1.1;have m1:=Int.mul_le_mul (show a≤65535 by omega) (show b1_≤65535 by omega) db1.1 (show (0:Int)≤65535 by omega);generalize a*b1_=q1 at *;have n2:=Int.mul_nonneg da.1 db2.1;have m2:=Int.mul_le_mul (show a≤65535 by omega) (show b2_≤65535 by omega) db2.1 (show (0:Int)≤65535 by omega);generalize a*b2_=q2 at *;have n3:=Int.mul_nonneg da.1 db3.1;have m3:=Int.mul_le_mul (show a≤65535 by omega) (show b3_≤65535 by omega) db3.1 (show (0:Int)≤65535 by omega);generalize a*b3_=q3 at *;have hp:=eR pp p0 (by omega);have zp6:dg pp 79228162514264337593543950336=0:=(by unfold dg;omega);have zp7:dg pp 5192296858534827628530496329220096=0:=(by unfold dg;omega);have zp8:dg pp 340282366920938463463374607431768211456=0:=(by unfold dg;omega);have zp9:dg pp 22300745198530623141535718272648361505980416=0:=(by unfold dg;omega);have zp10:dg pp 1461501637330902918203684832716283019655932542976=0:=(by unfold dg;omega);have zp11:dg pp 95780971304118053647396689196894323976171195136475136=0:=(by unfold dg;omega);rw[zp6,zp7,zp8,zp9,zp10,zp11]at hp;simp only[Int.mul_zero,Int.add_zero]at hp;have dp0:=dg_bd pp 1;generalize dg pp 1=c0 at *;have dp1:=dg_bd pp 65536;generalize dg pp 65536=c1 at *;have dp2:=dg_bd pp 4294967296;generalize dg pp 4294967296=c2 at *;have dp3:=dg_bd pp 281474976710656;generalize dg pp 281474976710656=c3 at *;have dp4:=dg_bd pp 18446744073709551616;generalize dg pp 18446744073709551616=c4 at *;have dp5:=dg_bd pp 1208925819614629174706176;generalize dg pp 1208925819614629174706176=c5 at *;have t2:=tdm (c2+q0) (by omega);generalize Int.tdiv (c2+q0) 65536=k2 at *;generalize Int.tmod (c2+q0) 65536=r2 at *;have t3:=tdm ((k2+c3)+q1) (by omega);generalize Int.tdiv ((k2+c3)+q1) 65536=k3 at *;generalize Int.tmod ((k2+c3)+q1) 65536=r3 at *;have t4:=tdm ((k3+c4)+q2) (by omega);generalize Int.tdiv ((k3+c4)+q2) 65536=k4 at *;generalize Int.tmod ((k3+c4)+q2) 65536=r4 at *;have t5:=tdm ((k4+c5)+q3) (by omega);generalize Int.tdiv ((k4+c5)+q3) 65536=k5 at *;generalize Int.tmod ((k4+c5)+q3) 65536=r5 at *;have top:k5≤65535:=(by omega);have es:pp+4294967296*(q0+65536*q1+4294967296*q2+281474976710656*q3)=c0+65536*c1+4294967296*r2+281474976710656*r3+18446744073709551616*r4+1208925819614629174706176*r5+79228162514264337593543950336*k5+5192296858534827628530496329220096*0+340282366920938463463374607431768211456*0+22300745198530623141535718272648361505980416*0+1461501637330902918203684832716283019655932542976*0+95780971304118053647396689196894323976171195136475136*0:=(by omega);rw[es];obtain⟨s0,s1,s2,s3,s4,s5,s6,s7,s8,s9,s10,s11⟩:=nS c0 c1 r2 r3 r4 r5 k5 0 0 0 0 0 (by omega) (by omega) (by omega) (by omega) (by omega) (by omega) (by omega) (by omega) (by omega) (by omega) (by omega) (by omega);(repeat' refine And.intro ?_ ?_)<;>first|trivial|exact s0.symm|exact s1.symm|exact s2.symm|exact s3.symm|exact s4.symm|exact s5.symm|exact s6.symm|exact s7.symm|exact s8.symm|exact s9.symm|exact s10.symm|exact s11.symm|exact s0|exact s1|exact s2|exact s3|exact s4|exact s5|exact s6|exact s7|exact s8|exact s9|exact s10|exact s11
set_option maxHeartbeats 8000000 in
set_option maxRecDepth 100000 in
theorem aWt (x0 x1 x2 x3:Int) (b0:0≤x0∧x0≤1) (b1:0≤x1∧x1≤1) (b2:0≤x2∧x2≤18446744073709551615) (b3:0≤x3∧x3≤18446744073709551615):Sx.jH (cM Try.prog 3) G (bT [x0,x1,x2,x3]) (dL G (bT [x0,x1,x2,x3]) (bT [x0,x1,x2,x3]) 99 (.lit true) (decide (3<12))) []:=by
 refine aE aQu ?_
 refine⟨by decide,?_⟩;(simp only[aJ]);simp only[nn,G,wG,nq]at *;have hb:=eR x3 b3.1 (by omega);have zb4:dg x3 18446744073709551616=0:=(by unfold dg;omega);have zb5:dg x3 1208925819614629174706176=0:=(by unfold dg;omega);have zb6:dg x3 79228162514264337593543950336=0:=(by unfold dg;omega);have zb7:dg x3 5192296858534827628530496329220096=0:=(by unfold dg;omega);have zb8:dg x3 340282366920938463463374607431768211456=0:=(by unfold dg;omega);have zb9:dg x3 22300745198530623141535718272648361505980416=0:=(by unfold dg;omega);have zb10:dg x3 1461501637330902918203684832716283019655932542976=0:=(by unfold dg;omega);have zb11:dg x3 95780971304118053647396689196894323976171195136475136=0:=(by unfold dg;omega);rw[zb4,zb5,zb6,zb7,zb8,zb9,zb10,zb11]at hb;simp only[Int.mul_zero,Int.add_zero]at hb;have db0:=dg_bd x3 1;generalize dg x3 1=b0_ at *;have db1:=dg_bd x3 65536;generalize dg x3 65536=b1_ at *;have db2:=dg_bd x3 4294967296;generalize dg x3 4294967296=b2_ at *;have db3:=dg_bd x3 281474976710656;generalize dg x3 281474976710656=b3_ at *;have lo:x2 % 18446744073709551616=x2 % 281474976710656+281474976710656*dg x2 281474976710656:=(by have q:=iT x2 281474976710656 (by decide);simpa using q);have l0:=Int.emod_nonneg x2 (show (281474976710656:Int)≠0 by decide);have l1:=Int.emod_lt_of_pos x2 (show (0:Int)<281474976710656 by decide);have da:=dg_bd x2 281474976710656;generalize dg x2 281474976710656=a at *;generalize x2 % 281474976710656=ll at *;have e1:x2 % 18446744073709551616*x3=ll*x3+281474976710656*(a*x3):=(by rw[lo];grind);have p0:0≤ll*x3:=Int.mul_nonneg l0 b3.1;have p1:ll*x3≤281474976710655*18446744073709551615:=Int.mul_le_mul (show ll≤281474976710655 by omega) b3.2 b3.1 (by omega);have hax:a*x3=a*b0_+65536*(a*b1_)+4294967296*(a*b2_)+281474976710656*(a*b3_):=(by rw[hb];grind);rw[e1];generalize ll*x3=pp at *;rw[hax]at *;have n0:=Int.mul_nonneg da.1 db0.1;have m0:=Int.mul_le_mul (show a≤65535 by omega) (show b0_≤65535 by omega) db0.1 (show (0:Int)≤65535 by omega);generalize a*b0_=q0 at *;have n1:=Int.mul_nonneg da.1 db1.1;have m1:=Int.mul_le_mul (show a≤65535 by omega) (show b1_≤65535 by omega) db1.1 (show (0:Int)≤65535 by omega);generalize a*b1_=q1 at *;have n2:=Int.mul_nonneg da.1 db2.1;have m2:=Int.mul_le_mul (show a≤65535 by omega) (show b2_≤65535 by omega) db2.1 (show (0:Int)≤65535 by omega);generalize a*b2_=q2 at *;have n3:=Int.mul_nonneg da.1 db3.1;have m3:=Int.mul_le_mul (show a≤65535 by omega) (show b3_≤65535 by omega) db3.1 (show (0:Int)≤65535 by omega);generalize a*b3_=q3 at *;have hp:=eR pp p0 (by omega);have zp7:dg pp 5192296858534827628530496329220096=0:=(by unfold dg;omega);have zp8:dg pp 340282366920938463463374607431768211456=0:=(by unfold dg;omega);have zp9:dg pp 22300745198530623141535718272648361505980416=0:=(by unfold dg;omega);have zp10:dg pp 1461501637330902918203684832716283019655932542976=0:=(by unfold dg;omega);have zp11:dg pp 95780971304118053647396689196894323976171195136475136=0:=(by unfold dg;omega);rw[zp7,zp8,zp9,zp10,zp11]at hp;simp only[Int.mul_zero,Int.add_zero]at hp;have dp0:=dg_bd pp 1;generalize dg pp 1=c0 at *;have dp1:=dg_bd pp 65536;generalize dg pp 65536=c1 at *;have dp2:=dg_bd pp 4294967296;generalize dg pp 4294967296=c2 at *;have dp3:=dg_bd pp 281474976710656;generalize dg pp 281474976710656=c3 at *;have dp4:=dg_bd pp 18446744073709551616;generalize dg pp 18446744073709551616=c4 at *;have dp5:=dg_bd pp 1208925819614629174706176;generalize dg pp 1208925819614629174706176=c5 at *;have dp6:=dg_bd pp 79228162514264337593543950336;generalize dg pp 79228162514264337593543950336=c6 at *;have t3:=tdm (c3+q0) (by omega);generalize Int.tdiv (c3+q0) 65536=k3 at *;generalize Int.tmod (c3+q0) 65536=r3 at *;have t4:=tdm ((k3+c4)+q1) (by omega);generalize Int.tdiv ((k3+c4)+q1) 65536=k4 at *;generalize Int.tmod ((k3+c4)+q1) 65536=r4 at *;have t5:=tdm ((k4+c5)+q2) (by omega);generalize Int.tdiv ((k4+c5)+q2) 65536=k5 at *;generalize Int.tmod ((k4+c5)+q2) 65536=r5 at *;have t6:=tdm ((k5+c6)+q3) (by omega);generalize Int.tdiv ((k5+c6)+q3) 65536=k6 at *;generalize Int.tmod ((k5+c6)+q3) 65536=r6 at *;have top:k6≤65535:=(by omega);have es:pp+281474976710656*(q0+65536*q1+4294967296*q2+281474976710656*q3)=c0+65536*c1+4294967296*c2+281474976710656*r3+18446744073709551616*r4+1208925819614629174706176*r5+79228162514264337593543950336*r6+5192296858534827628530496329220096*k6+340282366920938463463374607431768211456*0+22300745198530623141535718272648361505980416*0+1461501637330902918203684832716283019655932542976*0+95780971304118053647396689196894323976171195136475136*0:=(by omega);rw[es];obtain⟨s0,s1,s2,s3,s4,s5,s6,s7,s8,s9,s10,s11⟩:=nS c0 c1 c2 r3 r4 r5 r6 k6 0 0 0 0 (by omega) (by omega) (by omega) (by omega) (by omega) (by omega) (by omega) (by omega) (by omega) (by omega) (by omega) (by omega);(repeat' refine And.intro ?_ ?_)<;>first|trivial|exact s0.symm|exact s1.symm|exact s2.symm|exact s3.symm|exact s4.symm|exact s5.symm|exact s6.symm|exact s7.symm|exact s8.symm|exact s9.symm|exact s10.symm|exact s11.symm|exact s0|exact s1|exact s2|exact s3|exact s4|exact s5|exact s6|exact s7|exact s8|exact s9|exact s10|exact s11
set_option maxHeartbeats 8000000 in
set_option maxRecDepth 100000 in
theorem aWF (x0 x1 x2 x3:Int) (b0:0≤x0∧x0≤1) (b1:0≤x1∧x1≤1) (b2:0≤x2∧x2≤18446744073709551615) (b3:0≤x3∧x3≤18446744073709551615):Sx.jH (cM Try.prog 4) G (bT [x0,x1,x2,x3]) (dL G (bT [x0,x1,x2,x3]) (bT [x0,x1,x2,x3]) 99 (.lit true) (decide (4<12))) []:=by
 refine aE aPX ?_
 refine⟨by decide,?_⟩;(simp only[aJ])
set_option maxHeartbeats 8000000 in
set_option maxRecDepth 100000 in
theorem aWX (x0 x1 x2 x3:Int) (b0:0≤x0∧x0≤1) (b1:0≤x1∧x1≤1) (b2:0≤x2∧x2≤18446744073709551615) (b3:0≤x3∧x3≤18446744073709551615):Sx.jH (cM Try.prog 5) G (bT [x0,x1,x2,x3]) (dL G (bT [x0,x1,x2,x3]) (bT [x0,x1,x2,x3]) 99 (.lit true) (decide (5<12))) []:=by
 refine aE aOZ ?_
 refine⟨by decide,?_⟩;(simp only[aJ])
set_option maxHeartbeats 8000000 in
set_option maxRecDepth 100000 in
theorem aZw (x0 x1 x2 x3:Int) (b0:0≤x0∧x0≤1) (b1:0≤x1∧x1≤1) (b2:0≤x2∧x2≤18446744073709551615) (b3:0≤x3∧x3≤18446744073709551615):Sx.jH (cM Try.prog 6) G (bT [x0,x1,x2,x3]) (dL G (bT [x0,x1,x2,x3]) (bT [x0,x1,x2,x3]) 99 (.lit true) (decide (6<12))) []:=by
 refine aE aSM ?_
 refine⟨by decide,?_⟩;(simp only[aJ])
set_option maxHeartbeats 8000000 in
set_option maxRecDepth 100000 in
theorem aYY (x0 x1 x2 x3:Int) (b0:0≤x0∧x0≤1) (b1:0≤x1∧x1≤1) (b2:0≤x2∧x2≤18446744073709551615) (b3:0≤x3∧x3≤18446744073709551615):Sx.jH (cM Try.prog 7) G (bT [x0,x1,x2,x3]) (dL G (bT [x0,x1,x2,x3]) (bT [x0,x1,x2,x3]) 99 (.lit true) (decide (7<12))) []:=by
 refine aE aRF ?_
 refine⟨by decide,?_⟩;(simp only[aJ])
set_option maxHeartbeats 8000000 in
set_option maxRecDepth 100000 in
theorem aZz (x0 x1 x2 x3:Int) (b0:0≤x0∧x0≤1) (b1:0≤x1∧x1≤1) (b2:0≤x2∧x2≤18446744073709551615) (b3:0≤x3∧x3≤18446744073709551615):Sx.jH (cM Try.prog 8) G (bT [x0,x1,x2,x3]) (dL G (bT [x0,x1,x2,x3]) (bT [x0,x1,x2,x3]) 99 (.lit true) (decide (8<12))) []:=by
 refine aE aP7 ?_
 refine⟨by decide,?_⟩;(simp only[aJ])
set_option maxHeartbeats 8000000 in
set_option maxRecDepth 100000 in
theorem aXW (x0 x1 x2 x3:Int) (b0:0≤x0∧x0≤1) (b1:0≤x1∧x1≤1) (b2:0≤x2∧x2≤18446744073709551615) (b3:0≤x3∧x3≤18446744073709551615):Sx.jH (cM Try.prog 9) G (bT [x0,x1,x2,x3]) (dL G (bT [x0,x1,x2,x3]) (bT [x0,x1,x2,x3]) 99 (.lit true) (decide (9<12))) []:=by
 refine aE aUp ?_
 refine⟨by decide,?_⟩;(simp only[aJ])
set_option maxHeartbeats 8000000 in
set_option maxRecDepth 100000 in
theorem aRS (x0 x1 x2 x3:Int) (b0:0≤x0∧x0≤1) (b1:0≤x1∧x1≤1) (b2:0≤x2∧x2≤18446744073709551615) (b3:0≤x3∧x3≤18446744073709551615):Sx.jH (cM Try.prog 10) G (bT [x0,x1,x2,x3]) (dL G (bT [x0,x1,x2,x3]) (bT [x0,x1,x2,x3]) 99 (.lit true) (decide (10<12))) []:=by
 refine aE aME ?_
 refine⟨by decide,?_⟩;(simp only[aJ])
set_option maxHeartbeats 8000000 in
set_option maxRecDepth 100000 in
theorem aSG (x0 x1 x2 x3:Int) (b0:0≤x0∧x0≤1) (b1:0≤x1∧x1≤1) (b2:0≤x2∧x2≤18446744073709551615) (b3:0≤x3∧x3≤18446744073709551615):Sx.jH (cM Try.prog 11) G (bT [x0,x1,x2,x3]) (dL G (bT [x0,x1,x2,x3]) (bT [x0,x1,x2,x3]) 99 (.lit true) (decide (11<12))) []:=by
 refine aE aM6 ?_
 refine⟨by decide,?_⟩;(simp only[aJ])
set_option maxHeartbeats 8000000 in
set_option maxRecDepth 100000 in
theorem aUb (x0 x1 x2 x3:Int) (b0:0≤x0∧x0≤1) (b1:0≤x1∧x1≤1) (b2:0≤x2∧x2≤18446744073709551615) (b3:0≤x3∧x3≤18446744073709551615):Sx.jH (cM Try.prog 12) G (bT [x0,x1,x2,x3]) (dL G (bT [x0,x1,x2,x3]) (bT [x0,x1,x2,x3]) 99 (.lit true) (decide (12<12))) []:=by
 refine aE aMB ?_
 have e:x2 % 18446744073709551616=x2:=Int.emod_eq_of_lt b2.1 (by omega);refine⟨rfl,fun _ _=>rfl,?_⟩;(simp only[aJ]);simp only[nn,G,wG,nq]at *;rw[e];have p0:=Int.mul_nonneg b2.1 b3.1;have p1:=Int.mul_le_mul b2.2 b3.2 b3.1 (show (0:Int)≤18446744073709551615 by decide);generalize x2*x3=pp at *;(repeat' refine And.intro ?_ ?_)<;>first|trivial|rfl|(unfold dg;omega)
theorem aR0 (x0 x1 x2 x3:Int) (b0:0≤x0∧x0≤1) (b1:0≤x1∧x1≤1) (b2:0≤x2∧x2≤18446744073709551615) (b3:0≤x3∧x3≤18446744073709551615):∀ k,k≤12→Sx.jH (cM Try.prog k) G (bT [x0,x1,x2,x3]) (dL G (bT [x0,x1,x2,x3]) (bT [x0,x1,x2,x3]) 99 (.lit true) (decide (k<12))) []
 |0,_=>aW5 x0 x1 x2 x3 b0 b1 b2 b3
 |1,_=>aXn x0 x1 x2 x3 b0 b1 b2 b3
 |2,_=>aYx x0 x1 x2 x3 b0 b1 b2 b3
 |3,_=>aWt x0 x1 x2 x3 b0 b1 b2 b3
 |4,_=>aWF x0 x1 x2 x3 b0 b1 b2 b3
 |5,_=>aWX x0 x1 x2 x3 b0 b1 b2 b3
 |6,_=>aZw x0 x1 x2 x3 b0 b1 b2 b3
 |7,_=>aYY x0 x1 x2 x3 b0 b1 b2 b3
 |8,_=>aZz x0 x1 x2 x3 b0 b1 b2 b3
 |9,_=>aXW x0 x1 x2 x3 b0 b1 b2 b3
 |10,_=>aRS x0 x1 x2 x3 b0 b1 b2 b3
 |11,_=>aSG x0 x1 x2 x3 b0 b1 b2 b3
 |12,_=>aUb x0 x1 x2 x3 b0 b1 b2 b3
 |k+13,h=>by omega
theorem aTn:∀ k,(aB7 k).heap.length=4
 |0=>rfl
 |1=>rfl
 |2=>rfl
 |3=>rfl
 |4=>rfl
 |5=>rfl
 |6=>rfl
 |7=>rfl
 |8=>rfl
 |9=>rfl
 |10=>rfl
 |11=>rfl
 |12=>rfl
 |_+13=>rfl
theorem aP0 (x0 x1 x2 x3:Int) (b0:0≤x0∧x0≤1) (b1:0≤x1∧x1≤1) (b2:0≤x2∧x2≤18446744073709551615) (b3:0≤x3∧x3≤18446744073709551615):fN Try.prog G (bX GB) (aJu Try.prog) aIx (bT [x0,x1,x2,x3]):=by
 intro _ _
 have e:fJ G (bT [x0,x1,x2,x3]) aIx.es=bT [x0,x1,x2,x3]:=by rw[eD];rfl
 rw[e]
 exact⟨13,lN (ρ:=bT [x0,x1,x2,x3]) (ρT:=bT [x0,x1,x2,x3]) (S:=aB7) (N:=12) (l:=aIW) (run:=cM Try.prog) (fun _ _=>rfl) fits rfl dY (bL ⟨b0,b1,b2,b3,trivial⟩) (fun X hX hG=>gC) (fun X hX hG=>dW) (aR0 x0 x1 x2 x3 b0 b1 b2 b3) (fun k hk=>by rw[aTn];decide) 13 0 (by decide) (by decide)⟩
set_option maxRecDepth 100000 in
theorem aFz (x0 x1 x2 x3:Int) (b0:0≤x0∧x0≤1) (b1:0≤x1∧x1≤1) (b2:0≤x2∧x2≤18446744073709551615) (b3:0≤x3∧x3≤18446744073709551615) (w:World) (hw:pR GB w):dM Try.prog 137∧Calls Try.prog 137 #[.agg (.bool (!decide (x0=0))::SV.denL G (bT [x0,x1,x2,x3]) (dU (.var 2))).toArray,.agg (.bool (!decide (x1=0))::SV.denL G (bT [x0,x1,x2,x3]) (dU (.var 3))).toArray] w (fun e w'=>e = .returned (.agg (.bool ((!decide (x0=0)) !=(!decide (x1=0)))::eA (x2*x3)).toArray)∧Below w.heap.size w w'):=by
 refine dK (lP (ρ:=(bT [x0,x1,x2,x3])) (lp:=aB6) (run:=fun fs=>bK G GI [(0,1),(0,1),(0,18446744073709551615),(0,18446744073709551615)] fs (fun X=>kL Try.prog X GB jZ aB6 3000 137 [.agg (.bool (.cmp .ne (.var 0) (.lit 0))::dU (.var 2)),.agg (.bool (.cmp .ne (.var 1) (.lit 0))::dU (.var 3))])) (fun _=>rfl) fits (bL ⟨b0,b1,b2,b3,trivial⟩) dY (fun X hX hG=>gC) (fun X hX hG fn c hf hc=>?_) rfl rfl bV ?_ w hw)
 ·refine jL ((congrArg bM (jM hf hc)).symm.trans aJP) ?_
  intro b hb
  simp only[List.mem_cons,List.mem_nil_iff,or_false]at hb
  rcases hb with rfl|rfl
  ·exact lD hX hG (by kernel_rfl) (fun p hp=>by simp only[List.mem_singleton]at hp;subst hp;exact aP0 x0 x1 x2 x3 b0 b1 b2 b3)
  ·exact rX (j:=7) (by kernel_rfl) (by decide) aAP
 ·skip
  refine aE aWL ?_
  refine⟨rfl,?_⟩;simp only[nn,G,wG,nq]at *;(cases decide (x0=0)<;>cases decide (x1=0)<;>rfl)
def yS (N:E) (lo hi:Int):B := .and (.cmp .le (.lit lo) N) (.cmp .le N (.lit hi))
theorem eE {ρ:Nat→Int} {N:E} {lo hi:Int} (h:(yS N lo hi).den G ρ=true):lo≤N.den G ρ∧N.den G ρ≤hi:=by
 simp only[yS,B.den,Bool.and_eq_true]at h
 exact⟨of_decide_eq_true h.1,of_decide_eq_true h.2⟩
def oJ:eU:=fun X args=>
 match args with
 |[.agg a,.agg b]=>(jD X a).bind fun N=>(jD X b).bind fun M=>(Res.test X (yS N 0 6277101735386680763835789423207666416102355444464034512895)).bind fun p=>(Res.test X (yS M 0 6277101735386680763835789423207666416102355444464034512895)).bind fun q=>if p && q then .ok (.agg (aK (E.mkOp .add N M))) else .fail 220
 |_ => .fail 201
set_option maxRecDepth 100000 in
theorem aYg {X:Ctx} {ρ:Nat→Int} (hX:X.Ok ρ) (hG:X.G=G):dD Try.prog X ρ GB 136 oJ:=by
 obtain⟨XG,XI,XV,XF⟩:=X
 simp only at hG
 subst hG
 intro args s h α w vals hv hw
 unfold oJ at h
 split at h
 ·rename_i a b
  replace h:=Res.bind_ok h;obtain⟨N,hN,h⟩:=h
  replace h:=Res.bind_ok h;obtain⟨M,hM,h⟩:=h
  replace h:=Res.bind_ok h;obtain⟨p,hp,h⟩:=h
  replace h:=Res.bind_ok h;obtain⟨q,hq,h⟩:=h
  have hp:=Res.test_ok hX hp
  have hq:=Res.test_ok hX hq
  split at h
  ·rename_i hg
   simp only[Bool.and_eq_true]at hg
   obtain⟨rfl,rfl⟩:=hg
   have gN:=eE hp
   have gM:=eE hq
   obtain⟨u1,d1⟩:=eV hX hN
   obtain⟨u2,d2⟩:=eV hX hM
   have e:SV.denL G ρ [.agg a,.agg b]=[.agg (eA (N.den G ρ)).toArray,.agg (eA (M.den G ρ)).toArray]:=by simp only[SV.denL,SV.den,d1,d2]
   have ub:SV.ubdL 0 [.agg a,.agg b]=true:=by simp only[SV.ubdL,SV.ubd,u1,u2,Bool.and_self]
   cases h
   refine bC hv ub rfl ?_
   have e2:SV.den G ρ (.agg (aK (E.mkOp .add N M))) = .agg (eA (N.den G ρ+M.den G ρ)).toArray:=by simp only[SV.den,jU,E.mkOp_den,aK1]
   rw[e,e2]
   exact aTS _ _ gN gM w hw
  ·cases h
 ·cases h
def kO:eU:=fun X args=>
 match args with
 |[.agg a,.agg b]=>(jD X a).bind fun N=>(jD X b).bind fun M=>(Res.test X (yS N 0 6277101735386680763835789423207666416102355444464034512895)).bind fun p=>(Res.test X (yS M 0 6277101735386680763835789423207666416102355444464034512895)).bind fun q=>if p && q then (Res.test X (.cmp .lt N M)).bind fun t=>if t then .ok (.int .i64 (.lit (-1))) else (Res.test X (.cmp .lt M N)).bind fun t=>if t then .ok (.int .i64 (.lit 1)) else .ok (.int .i64 (.lit 0)) else .fail 220
 |_ => .fail 201
set_option maxRecDepth 100000 in
theorem aJ0 {X:Ctx} {ρ:Nat→Int} (hX:X.Ok ρ) (hG:X.G=G):dD Try.prog X ρ GB 133 kO:=by
 obtain⟨XG,XI,XV,XF⟩:=X
 simp only at hG
 subst hG
 intro args s h α w vals hv hw
 unfold kO at h
 split at h
 ·rename_i a b
  replace h:=Res.bind_ok h;obtain⟨N,hN,h⟩:=h
  replace h:=Res.bind_ok h;obtain⟨M,hM,h⟩:=h
  replace h:=Res.bind_ok h;obtain⟨p,hp,h⟩:=h
  replace h:=Res.bind_ok h;obtain⟨q,hq,h⟩:=h
  have hp:=Res.test_ok hX hp
  have hq:=Res.test_ok hX hq
  split at h
  ·rename_i hg
   simp only[Bool.and_eq_true]at hg
   obtain⟨rfl,rfl⟩:=hg
   have gN:=eE hp
   have gM:=eE hq
   obtain⟨u1,d1⟩:=eV hX hN
   obtain⟨u2,d2⟩:=eV hX hM
   have e:SV.denL G ρ [.agg a,.agg b]=[.agg (eA (N.den G ρ)).toArray,.agg (eA (M.den G ρ)).toArray]:=by simp only[SV.denL,SV.den,d1,d2]
   have ub:SV.ubdL 0 [.agg a,.agg b]=true:=by simp only[SV.ubdL,SV.ubd,u1,u2,Bool.and_self]
   replace h:=Res.bind_ok h;obtain⟨t,ht,h⟩:=h
   have ht:=Res.test_ok hX ht
   have k:=aFc _ _ gN gM w hw
   cases t with
   |true=>
    cases h
    simp only[B.den,kN,decide_eq_true_eq]at ht
    refine bC hv ub rfl ?_
    rw[e]
    rw[if_pos ht]at k
    exact k
   |false=>
    simp only[Bool.false_eq_true,if_false]at h
    simp only[B.den,kN,decide_eq_false_iff_not]at ht
    rw[if_neg ht]at k
    replace h:=Res.bind_ok h;obtain⟨t,ht,h⟩:=h
    have ht:=Res.test_ok hX ht
    cases t with
    |true=>
     cases h
     simp only[B.den,kN,decide_eq_true_eq]at ht
     refine bC hv ub rfl ?_
     rw[e]
     rw[if_pos ht]at k
     exact k
    |false=>
     cases h
     simp only[B.den,kN,decide_eq_false_iff_not]at ht
     refine bC hv ub rfl ?_
     rw[e]
     rw[if_neg ht]at k
     exact k
  ·cases h
 ·cases h
def pC:eU:=fun X args=>
 match args with
 |[.agg a,.agg b]=>(jD X a).bind fun N=>(jD X b).bind fun M=>(Res.test X (yS N 0 6277101735386680763835789423207666416102355444464034512895)).bind fun p=>(Res.test X (yS M 0 6277101735386680763835789423207666416102355444464034512895)).bind fun q=>if p && q then (Res.test X (.cmp .le M N)).bind fun t=>if t then .ok (.agg (aK (E.mkOp .sub N M))) else .fail 221 else .fail 220
 |_ => .fail 201
set_option maxRecDepth 100000 in
theorem aXB {X:Ctx} {ρ:Nat→Int} (hX:X.Ok ρ) (hG:X.G=G):dD Try.prog X ρ GB 135 pC:=by
 obtain⟨XG,XI,XV,XF⟩:=X
 simp only at hG
 subst hG
 intro args s h α w vals hv hw
 unfold pC at h
 split at h
 ·rename_i a b
  replace h:=Res.bind_ok h;obtain⟨N,hN,h⟩:=h
  replace h:=Res.bind_ok h;obtain⟨M,hM,h⟩:=h
  replace h:=Res.bind_ok h;obtain⟨p,hp,h⟩:=h
  replace h:=Res.bind_ok h;obtain⟨q,hq,h⟩:=h
  have hp:=Res.test_ok hX hp
  have hq:=Res.test_ok hX hq
  split at h
  ·rename_i hg
   simp only[Bool.and_eq_true]at hg
   obtain⟨rfl,rfl⟩:=hg
   have gN:=eE hp
   have gM:=eE hq
   obtain⟨u1,d1⟩:=eV hX hN
   obtain⟨u2,d2⟩:=eV hX hM
   have e:SV.denL G ρ [.agg a,.agg b]=[.agg (eA (N.den G ρ)).toArray,.agg (eA (M.den G ρ)).toArray]:=by simp only[SV.denL,SV.den,d1,d2]
   have ub:SV.ubdL 0 [.agg a,.agg b]=true:=by simp only[SV.ubdL,SV.ubd,u1,u2,Bool.and_self]
   replace h:=Res.bind_ok h;obtain⟨t,ht,h⟩:=h
   have ht:=Res.test_ok hX ht
   cases t with
   |true=>
    cases h
    simp only[B.den,kJ,decide_eq_true_eq]at ht
    refine bC hv ub rfl ?_
    have e2:SV.den G ρ (.agg (aK (E.mkOp .sub N M))) = .agg (eA (N.den G ρ-M.den G ρ)).toArray:=by simp only[SV.den,jU,E.mkOp_den,aCJ]
    rw[e,e2]
    exact aSL _ _ gN gM ht w hw
   |false=>cases h
  ·cases h
 ·cases h
def pB:eU:=fun X args=>
 match args with
 |[.agg (.bool b::a)]=>(jD X a).bind fun N=>(Res.test X (yS N 0 6277101735386680763835789423207666416102355444464034512895)).bind fun p=>if p then .ok (.bool (.cmp .eq N (.lit 0))) else .fail 222
 |_ => .fail 201
set_option maxRecDepth 100000 in
theorem aYf {X:Ctx} {ρ:Nat→Int} (hX:X.Ok ρ) (hG:X.G=G):dD Try.prog X ρ GB 134 pB:=by
 obtain⟨XG,XI,XV,XF⟩:=X
 simp only at hG
 subst hG
 intro args s h α w vals hv hw
 unfold pB at h
 split at h
 ·rename_i b a
  replace h:=Res.bind_ok h;obtain⟨N,hN,h⟩:=h
  replace h:=Res.bind_ok h;obtain⟨p,hp,h⟩:=h
  have hp:=Res.test_ok hX hp
  split at h
  ·rename_i hg
   subst hg
   have gN:=eE hp
   obtain⟨u1,d1⟩:=eV hX hN
   cases h
   have k:=aRi (N.den G ρ) (if b.den G ρ=true then 1 else 0) gN (by split<;>decide) w hw
   have eb:(!decide ((if b.den G ρ=true then (1:Int) else 0)=0))=b.den G ρ:=by cases b.den G ρ<;>rfl
   rw[eb]at k
   refine bC hv (by simp only[SV.ubdL,SV.ubd,u1,Bool.and_self]) rfl ?_
   have e:SV.denL G ρ [.agg (.bool b::a)]=[.agg (.bool (b.den G ρ)::eA (N.den G ρ)).toArray]:=by simp only[SV.denL,SV.den,d1]
   rw[e]
   exact k
  ·cases h
 ·cases h
def kS:eU:=fun X args=>
 match args with
 |[.agg (.bool b::a),.agg (.bool c::d)]=>(jD X a).bind fun N=>(jD X d).bind fun M=>(Res.test X (yS N 0 18446744073709551615)).bind fun p=>(Res.test X (yS M 0 18446744073709551615)).bind fun q=>if p && q then (Res.test X b).bind fun s=>(Res.test X c).bind fun t => .ok (.agg (.bool (.lit (s !=t))::aK (E.mkOp .mul N M))) else .fail 223
 |_ => .fail 201
set_option maxRecDepth 100000 in
theorem aIX {X:Ctx} {ρ:Nat→Int} (hX:X.Ok ρ) (hG:X.G=G):dD Try.prog X ρ GB 137 kS:=by
 obtain⟨XG,XI,XV,XF⟩:=X
 simp only at hG
 subst hG
 intro args s h α w vals hv hw
 unfold kS at h
 split at h
 ·rename_i b a c d
  replace h:=Res.bind_ok h;obtain⟨N,hN,h⟩:=h
  replace h:=Res.bind_ok h;obtain⟨M,hM,h⟩:=h
  replace h:=Res.bind_ok h;obtain⟨p,hp,h⟩:=h
  replace h:=Res.bind_ok h;obtain⟨q,hq,h⟩:=h
  have hp:=Res.test_ok hX hp
  have hq:=Res.test_ok hX hq
  split at h
  ·rename_i hg
   simp only[Bool.and_eq_true]at hg
   obtain⟨rfl,rfl⟩:=hg
   have gN:=eE hp
   have gM:=eE hq
   obtain⟨u1,d1⟩:=eV hX hN
   obtain⟨u2,d2⟩:=eV hX hM
   replace h:=Res.bind_ok h;obtain⟨s1,hs1,h⟩:=h
   replace h:=Res.bind_ok h;obtain⟨s2,hs2,h⟩:=h
   have hs1:=Res.test_ok hX hs1
   have hs2:=Res.test_ok hX hs2
   cases h
   have k:=aFz (if s1=true then 1 else 0) (if s2=true then 1 else 0) (N.den G ρ) (M.den G ρ) (by split<;>decide) (by split<;>decide) gN gM w hw
   have eb:∀ b:Bool,(!decide ((if b=true then (1:Int) else 0)=0))=b:=by intro b;cases b<;>rfl
   rw[eb,eb]at k
   have q1:=sD (ρ:=bT [(if s1=true then 1 else 0),(if s2=true then 1 else 0),N.den G ρ,M.den G ρ]) (.var 2) gN.1 (Int.lt_of_le_of_lt gN.2 (by decide))
   have q2:=sD (ρ:=bT [(if s1=true then 1 else 0),(if s2=true then 1 else 0),N.den G ρ,M.den G ρ]) (.var 3) gM.1 (Int.lt_of_le_of_lt gM.2 (by decide))
   rw[q1,q2]at k
   refine bC hv (by simp only[SV.ubdL,SV.ubd,u1,u2,Bool.and_self]) rfl ?_
   have e:SV.denL G ρ [.agg (.bool b::a),.agg (.bool c::d)]=[.agg (.bool s1::eA (N.den G ρ)).toArray,.agg (.bool s2::eA (M.den G ρ)).toArray]:=by simp only[SV.denL,SV.den,d1,d2];rw[show b.den G ρ=s1 from hs1,show c.den G ρ=s2 from hs2]
   have e2:SV.den G ρ (.agg (.bool (.lit (s1 !=s2))::aK (E.mkOp .mul N M))) = .agg (.bool (s1 !=s2)::eA (N.den G ρ*M.den G ρ)).toArray:=by simp only[SV.den,SV.denL,jU,E.mkOp_den,aXr,B.den]
   rw[e,e2]
   exact k
  ·cases h
 ·cases h
def aJ9:aZ:=dR 136 oJ jZ
theorem aIG {X:Ctx} {ρ:Nat→Int} (hX:X.Ok ρ) (hG:X.G=G):eO Try.prog X ρ GB aJ9:=cD (aYg hX hG) (gC)
def aAv:aZ:=dR 133 kO aJ9
theorem aA4 {X:Ctx} {ρ:Nat→Int} (hX:X.Ok ρ) (hG:X.G=G):eO Try.prog X ρ GB aAv:=cD (aJ0 hX hG) (aIG hX hG)
def aLh:aZ:=dR 135 pC aAv
theorem aJ1 {X:Ctx} {ρ:Nat→Int} (hX:X.Ok ρ) (hG:X.G=G):eO Try.prog X ρ GB aLh:=cD (aXB hX hG) (aA4 hX hG)
def aKB:aZ:=dR 134 pB aLh
theorem aJV {X:Ctx} {ρ:Nat→Int} (hX:X.Ok ρ) (hG:X.G=G):eO Try.prog X ρ GB aKB:=cD (aYf hX hG) (aJ1 hX hG)
def jO:aZ:=dR 137 kS aKB
theorem kU {X:Ctx} {ρ:Nat→Int} (hX:X.Ok ρ) (hG:X.G=G):eO Try.prog X ρ GB jO:=cD (aIX hX hG) (aJV hX hG)
end Go.Proofs.Ytkpdiehbaiepaaa
