/- What is proved: may numbers be: the run. No condition but the numbers' own bounds. -/
import Derived.Test.YtoiecphddchknaaQa2
import Derived.Test.YtoiecphddchknaaQg4
import Derived.Test.YtoiecphddchknaaQg6
import Derived.Test.YtoiecphddchknaaQg3
import Derived.Test.YtoiecphddchknaaQNn
set_option linter.unusedSimpArgs false
set_option linter.unusedVariables false
namespace Go.Proofs.Ytoiecphddchknaa
open Go Go.RowKit Sx Wi
def aBO:List (Int × Int):=[((-9223372036854775808),9223372036854775807),(0,18446744073709551615),((-9223372036854775808),9223372036854775807),((-9223372036854775808),9223372036854775807),(0,18446744073709551615),((-9223372036854775808),9223372036854775807),((-9223372036854775808),9223372036854775807),(0,18446744073709551615),((-9223372036854775808),9223372036854775807),((-9223372036854775808),9223372036854775807),(0,18446744073709551615),((-9223372036854775808),9223372036854775807)]
def bR:B:=(.and (.cmp .le (.lit (-1125899906842624)) (.op .add (.op .mul (.var 0) (.lit 18446744073709551616)) (.var 1))) (.and (.cmp .le (.op .add (.op .mul (.var 0) (.lit 18446744073709551616)) (.var 1)) (.lit 1125899906842624)) (.and (.cmp .le (.lit (-1125899906842624)) (.op .add (.op .mul (.var 3) (.lit 18446744073709551616)) (.var 4))) (.and (.cmp .le (.op .add (.op .mul (.var 3) (.lit 18446744073709551616)) (.var 4)) (.lit 1125899906842624)) (.and (.cmp .le (.lit (-1125899906842624)) (.op .add (.op .mul (.var 6) (.lit 18446744073709551616)) (.var 7))) (.and (.cmp .le (.op .add (.op .mul (.var 6) (.lit 18446744073709551616)) (.var 7)) (.lit 1125899906842624)) (.and (.cmp .le (.lit (-1125899906842624)) (.op .add (.op .mul (.var 9) (.lit 18446744073709551616)) (.var 10))) (.and (.cmp .le (.op .add (.op .mul (.var 9) (.lit 18446744073709551616)) (.var 10)) (.lit 1125899906842624)) (.and (.cmp .le (.lit 1) (.var 2)) (.and (.cmp .le (.var 2) (.lit 65535)) (.and (.cmp .eq (.var 5) (.var 2)) (.and (.cmp .eq (.var 8) (.var 2)) (.cmp .eq (.var 11) (.var 2))))))))))))))
def aEt:FunS:=⟨[.slice 0 0 4 4],[some ([(.int .i64 (.var 0)),(.int .u64 (.var 1)),(.int .i64 (.var 2)),(.int .i64 (.var 3)),(.int .u64 (.var 4)),(.int .i64 (.var 5)),(.int .i64 (.var 6)),(.int .u64 (.var 7)),(.int .i64 (.var 8)),(.int .i64 (.var 9)),(.int .u64 (.var 10)),(.int .i64 (.var 11))],37)],.lit true,.bool bR,[some ([(.int .i64 (.var 0)),(.int .u64 (.var 1)),(.int .i64 (.var 2)),(.int .i64 (.var 3)),(.int .u64 (.var 4)),(.int .i64 (.var 5)),(.int .i64 (.var 6)),(.int .u64 (.var 7)),(.int .i64 (.var 8)),(.int .i64 (.var 9)),(.int .u64 (.var 10)),(.int .i64 (.var 11))],37)],.bool bR,[some ([(.int .i64 (.var 0)),(.int .u64 (.var 1)),(.int .i64 (.var 2)),(.int .i64 (.var 3)),(.int .u64 (.var 4)),(.int .i64 (.var 5)),(.int .i64 (.var 6)),(.int .u64 (.var 7)),(.int .i64 (.var 8)),(.int .i64 (.var 9)),(.int .u64 (.var 10)),(.int .i64 (.var 11))],37)]⟩
def aDY (P:Program) (fs:List B):Res SV:=bY G GI aBO fs fun X=>lX P X GB vQ iH 4000 36 aEt
end Go.Proofs.Ytoiecphddchknaa
set_option maxRecDepth 100000
namespace Go.Proofs.Ytoiecphddchknaa
open Go Go.RowKit Sx Wi
def dR (P:Program) (fs:List B):Res SV:=aDY P fs
def aDD:List B:=[]
def cE:B:=(.cmp .lt (.var 2) (.lit 1))
def aLJ:List B:=aK cE++aDD
def cX:SV:=(.tuple [(.agg [(.bool (.lit false)),(.bool (.and (.cmp .le (.lit (-1125899906842624)) (.op .add (.op .mul (.var 0) (.lit 18446744073709551616)) (.var 1))) (.and (.cmp .le (.op .add (.op .mul (.var 0) (.lit 18446744073709551616)) (.var 1)) (.lit 1125899906842624)) (.and (.cmp .le (.lit (-1125899906842624)) (.op .add (.op .mul (.var 3) (.lit 18446744073709551616)) (.var 4))) (.and (.cmp .le (.op .add (.op .mul (.var 3) (.lit 18446744073709551616)) (.var 4)) (.lit 1125899906842624)) (.and (.cmp .le (.lit (-1125899906842624)) (.op .add (.op .mul (.var 6) (.lit 18446744073709551616)) (.var 7))) (.and (.cmp .le (.op .add (.op .mul (.var 6) (.lit 18446744073709551616)) (.var 7)) (.lit 1125899906842624)) (.and (.cmp .le (.lit (-1125899906842624)) (.op .add (.op .mul (.var 9) (.lit 18446744073709551616)) (.var 10))) (.and (.cmp .le (.op .add (.op .mul (.var 9) (.lit 18446744073709551616)) (.var 10)) (.lit 1125899906842624)) (.and (.cmp .le (.lit 1) (.var 2)) (.and (.cmp .le (.var 2) (.lit 65535)) (.and (.cmp .eq (.var 5) (.var 2)) (.and (.cmp .eq (.var 8) (.var 2)) (.cmp .eq (.var 11) (.var 2)))))))))))))))]),(.bool (.lit true))])
def aC6:List B:=aK (B.neg cE)++aDD
def cJ:B:=(.cmp .lt (.lit 65535) (.var 2))
def aL6:List B:=aK cJ++aC6
def aDT:List B:=aK (B.neg cJ)++aC6
def cN:B:=(.cmp .lt (.lit 1125899906842624) (.op .add (.op .mul (.var 0) (.lit 18446744073709551616)) (.var 1)))
def aLW:List B:=aK cN++aDT
def aDK:List B:=aK (B.neg cN)++aDT
def cR:B:=(.cmp .lt (.op .add (.op .mul (.var 0) (.lit 18446744073709551616)) (.var 1)) (.lit (-1125899906842624)))
def aNh:List B:=aK cR++aDK
def aCP:List B:=aK (B.neg cR)++aDK
def cW:B:=(.cmp .ne (.var 5) (.var 2))
def aL5:List B:=aK cW++aCP
def aA2:List B:=aK (B.neg cW)++aCP
def dF:B:=(.cmp .lt (.var 5) (.lit 1))
def aJD:List B:=aK dF++aA2
def aAD:List B:=aK (B.neg dF)++aA2
def dN:B:=(.cmp .lt (.lit 65535) (.var 5))
def aJK:List B:=aK dN++aAD
def aAv:List B:=aK (B.neg dN)++aAD
def dV:B:=(.cmp .lt (.lit 1125899906842624) (.op .add (.op .mul (.var 3) (.lit 18446744073709551616)) (.var 4)))
def aHR:List B:=aK dV++aAv
def aAL:List B:=aK (B.neg dV)++aAv
def eK:B:=(.cmp .lt (.op .add (.op .mul (.var 3) (.lit 18446744073709551616)) (.var 4)) (.lit (-1125899906842624)))
def aJy:List B:=aK eK++aAL
def aBo:List B:=aK (B.neg eK)++aAL
def eX:B:=(.cmp .ne (.var 8) (.var 2))
def aI2:List B:=aK eX++aBo
def aAx:List B:=aK (B.neg eX)++aBo
def eF:B:=(.cmp .lt (.var 8) (.lit 1))
def aIH:List B:=aK eF++aAx
def aBk:List B:=aK (B.neg eF)++aAx
def eP:B:=(.cmp .lt (.lit 65535) (.var 8))
def aHD:List B:=aK eP++aBk
def aAl:List B:=aK (B.neg eP)++aBk
def fH:B:=(.cmp .lt (.lit 1125899906842624) (.op .add (.op .mul (.var 6) (.lit 18446744073709551616)) (.var 7)))
def aHv:List B:=aK fH++aAl
def aAy:List B:=aK (B.neg fH)++aAl
def gI:B:=(.cmp .lt (.op .add (.op .mul (.var 6) (.lit 18446744073709551616)) (.var 7)) (.lit (-1125899906842624)))
def aHZ:List B:=aK gI++aAy
def aBq:List B:=aK (B.neg gI)++aAy
def iE:B:=(.cmp .ne (.var 11) (.var 2))
def aJF:List B:=aK iE++aBq
def aAZ:List B:=aK (B.neg iE)++aBq
def jH:B:=(.cmp .lt (.var 11) (.lit 1))
def aIW:List B:=aK jH++aAZ
def aBj:List B:=aK (B.neg jH)++aAZ
def jZ:B:=(.cmp .lt (.lit 65535) (.var 11))
def aIl:List B:=aK jZ++aBj
def aA3:List B:=aK (B.neg jZ)++aBj
def lH:B:=(.cmp .lt (.lit 1125899906842624) (.op .add (.op .mul (.var 9) (.lit 18446744073709551616)) (.var 10)))
def aIz:List B:=aK lH++aA3
def aAB:List B:=aK (B.neg lH)++aA3
def mZ:B:=(.cmp .lt (.op .add (.op .mul (.var 9) (.lit 18446744073709551616)) (.var 10)) (.lit (-1125899906842624)))
def aHX:List B:=aK mZ++aAB
def aHP:List B:=aK (B.neg mZ)++aAB
def aLU:SV:=(.tuple [(.agg [(.bool (.lit true)),(.bool (.and (.cmp .le (.lit (-1125899906842624)) (.op .add (.op .mul (.var 0) (.lit 18446744073709551616)) (.var 1))) (.and (.cmp .le (.op .add (.op .mul (.var 0) (.lit 18446744073709551616)) (.var 1)) (.lit 1125899906842624)) (.and (.cmp .le (.lit (-1125899906842624)) (.op .add (.op .mul (.var 3) (.lit 18446744073709551616)) (.var 4))) (.and (.cmp .le (.op .add (.op .mul (.var 3) (.lit 18446744073709551616)) (.var 4)) (.lit 1125899906842624)) (.and (.cmp .le (.lit (-1125899906842624)) (.op .add (.op .mul (.var 6) (.lit 18446744073709551616)) (.var 7))) (.and (.cmp .le (.op .add (.op .mul (.var 6) (.lit 18446744073709551616)) (.var 7)) (.lit 1125899906842624)) (.and (.cmp .le (.lit (-1125899906842624)) (.op .add (.op .mul (.var 9) (.lit 18446744073709551616)) (.var 10))) (.and (.cmp .le (.op .add (.op .mul (.var 9) (.lit 18446744073709551616)) (.var 10)) (.lit 1125899906842624)) (.and (.cmp .le (.lit 1) (.var 2)) (.and (.cmp .le (.var 2) (.lit 65535)) (.and (.cmp .eq (.var 5) (.var 2)) (.and (.cmp .eq (.var 8) (.var 2)) (.cmp .eq (.var 11) (.var 2)))))))))))))))]),(.bool (.lit true))])
theorem aMT:dR Try.prog aLJ = .ok cX:=by kernel_rfl
theorem aLO:dR Try.prog aL6 = .ok cX:=by kernel_rfl
theorem aM2:dR Try.prog aLW = .ok cX:=by kernel_rfl
theorem aLQ:dR Try.prog aNh = .ok cX:=by kernel_rfl
theorem aMO:dR Try.prog aL5 = .ok cX:=by kernel_rfl
theorem aJm:dR Try.prog aJD = .ok cX:=by kernel_rfl
theorem aJC:dR Try.prog aJK = .ok cX:=by kernel_rfl
theorem aIn:dR Try.prog aHR = .ok cX:=by kernel_rfl
theorem aJA:dR Try.prog aJy = .ok cX:=by kernel_rfl
theorem aIU:dR Try.prog aI2 = .ok cX:=by kernel_rfl
theorem aIa:dR Try.prog aIH = .ok cX:=by kernel_rfl
theorem aIL:dR Try.prog aHD = .ok cX:=by kernel_rfl
theorem aJI:dR Try.prog aHv = .ok cX:=by kernel_rfl
theorem aJl:dR Try.prog aHZ = .ok cX:=by kernel_rfl
theorem aIu:dR Try.prog aJF = .ok cX:=by kernel_rfl
theorem aJE:dR Try.prog aIW = .ok cX:=by kernel_rfl
theorem aHx:dR Try.prog aIl = .ok cX:=by kernel_rfl
theorem aI4:dR Try.prog aIz = .ok cX:=by kernel_rfl
theorem aHE:dR Try.prog aHX = .ok cX:=by kernel_rfl
theorem aH4:dR Try.prog aHP = .ok aLU:=by kernel_rfl
end Go.Proofs.Ytoiecphddchknaa
namespace Go.Proofs.Ytoiecphddchknaa
open Go Go.RowKit Sx Wi
theorem sJ {a b p:Ed.D} (h:Ed.side a b p=1):0≤Ed.cross a b p:=by
 unfold Ed.side Ed.or3 at h
 rcases Ed.sg_cases (Ed.cross a b p)with⟨e,q⟩|⟨e,q⟩|⟨e,q⟩
 ·rw[e,if_pos (by omega)]at h;omega
 ·omega
 ·omega
theorem sL {a b p:Ed.D} (h:Ed.side a b p = -1):Ed.cross a b p≤0:=by
 unfold Ed.side Ed.or3 at h
 rcases Ed.sg_cases (Ed.cross a b p)with⟨e,q⟩|⟨e,q⟩|⟨e,q⟩
 ·omega
 ·omega
 ·rw[e,if_pos (by omega)]at h;omega
theorem aNF {a b c d e f x y:Int} (h:gR [a,b,c,d,e,f,x,y]≠0):
  (-3602879701896396800≤dB 0 [a,b,c,d,e,f,x,y]+dB 1 [a,b,c,d,e,f,x,y]+dB 2 [a,b,c,d,e,f,x,y]∧dB 0 [a,b,c,d,e,f,x,y]+dB 1 [a,b,c,d,e,f,x,y]+dB 2 [a,b,c,d,e,f,x,y]≤3602879701896396800)∧
  ((0≤dB 0 [a,b,c,d,e,f,x,y]∧0≤dB 1 [a,b,c,d,e,f,x,y]∧0≤dB 2 [a,b,c,d,e,f,x,y]∧1≤dB 0 [a,b,c,d,e,f,x,y]+dB 1 [a,b,c,d,e,f,x,y]+dB 2 [a,b,c,d,e,f,x,y])∨
   (dB 0 [a,b,c,d,e,f,x,y]≤0∧dB 1 [a,b,c,d,e,f,x,y]≤0∧dB 2 [a,b,c,d,e,f,x,y]≤0∧dB 0 [a,b,c,d,e,f,x,y]+dB 1 [a,b,c,d,e,f,x,y]+dB 2 [a,b,c,d,e,f,x,y] ≤ -1)):=by
 replace h:Ed.claim ⟨a,b⟩ ⟨c,d⟩ ⟨e,f⟩ ⟨x,y⟩≠0:=h
 show (_≤wt ⟨a,b⟩ ⟨c,d⟩ ⟨e,f⟩ ⟨x,y⟩ 0+wt ⟨a,b⟩ ⟨c,d⟩ ⟨e,f⟩ ⟨x,y⟩ 1+wt ⟨a,b⟩ ⟨c,d⟩ ⟨e,f⟩ ⟨x,y⟩ 2∧wt ⟨a,b⟩ ⟨c,d⟩ ⟨e,f⟩ ⟨x,y⟩ 0+wt ⟨a,b⟩ ⟨c,d⟩ ⟨e,f⟩ ⟨x,y⟩ 1+wt ⟨a,b⟩ ⟨c,d⟩ ⟨e,f⟩ ⟨x,y⟩ 2≤_)∧((0≤wt ⟨a,b⟩ ⟨c,d⟩ ⟨e,f⟩ ⟨x,y⟩ 0∧0≤wt ⟨a,b⟩ ⟨c,d⟩ ⟨e,f⟩ ⟨x,y⟩ 1∧0≤wt ⟨a,b⟩ ⟨c,d⟩ ⟨e,f⟩ ⟨x,y⟩ 2∧1≤wt ⟨a,b⟩ ⟨c,d⟩ ⟨e,f⟩ ⟨x,y⟩ 0+wt ⟨a,b⟩ ⟨c,d⟩ ⟨e,f⟩ ⟨x,y⟩ 1+wt ⟨a,b⟩ ⟨c,d⟩ ⟨e,f⟩ ⟨x,y⟩ 2)∨(wt ⟨a,b⟩ ⟨c,d⟩ ⟨e,f⟩ ⟨x,y⟩ 0≤0∧wt ⟨a,b⟩ ⟨c,d⟩ ⟨e,f⟩ ⟨x,y⟩ 1≤0∧wt ⟨a,b⟩ ⟨c,d⟩ ⟨e,f⟩ ⟨x,y⟩ 2≤0∧wt ⟨a,b⟩ ⟨c,d⟩ ⟨e,f⟩ ⟨x,y⟩ 0+wt ⟨a,b⟩ ⟨c,d⟩ ⟨e,f⟩ ⟨x,y⟩ 1+wt ⟨a,b⟩ ⟨c,d⟩ ⟨e,f⟩ ⟨x,y⟩ 2 ≤ -1))
 generalize (⟨a,b⟩:Ed.D)=A at *
 generalize (⟨c,d⟩:Ed.D)=B at *
 generalize (⟨e,f⟩:Ed.D)=C at *
 generalize (⟨x,y⟩:Ed.D)=p at *
 unfold Ed.claim at h
 split at h
 ·exact absurd rfl h
 rename_i h0
 have hp:Ed.ok p:=by
  by_cases q:Ed.ok p
  ·exact q
  ·exact absurd (Or.inr q) h0
 have ha0:Ed.sg (Ed.area A B C)≠0:=fun q=>h0 (Or.inl q)
 have hok:Ed.ok A∧Ed.ok B∧Ed.ok C:=by
  by_cases q:Ed.ok A∧Ed.ok B∧Ed.ok C
  ·exact q
  ·exact absurd (by unfold Ed.area;rw[if_neg q];rfl) ha0
 have har:Ed.area A B C=Ed.cross A B C:=by unfold Ed.area;rw[if_pos hok]
 have hbd:=aO4 A B C
 rw[har]at h ha0 hbd
 split at h
 case isFalse=>exact absurd rfl h
 rename_i hs
 obtain⟨s0,s1,s2⟩:=hs
 have hk:fN A B C p:=⟨hok,hp⟩
 have w0:wt A B C p 0=Ed.cross B C p:=by unfold wt;rw[if_pos hk];rfl
 have w1:wt A B C p 1=Ed.cross C A p:=by unfold wt;rw[if_pos hk];rfl
 have w2:wt A B C p 2=Ed.cross A B p:=by unfold wt;rw[if_pos hk];rfl
 have hsum:=Ed.cross_sum A B C p
 rw[w0,w1,w2]
 rcases Ed.sg_cases (Ed.cross A B C)with⟨q,r⟩|⟨q,r⟩|⟨q,r⟩
 ·rw[q]at s0 s1 s2
  have t0:=sL s0;have t1:=sL s1;have t2:=sL s2
  exact⟨by omega,.inr ⟨t0,t1,t2,by omega⟩⟩
 ·exact absurd q ha0
 ·rw[q]at s0 s1 s2
  have t0:=sJ s0;have t1:=sJ s1;have t2:=sJ s2
  exact⟨by omega,.inl ⟨t0,t1,t2,by omega⟩⟩
theorem aSI {n d k:Int} (hd:1≤d) (h:n≤k*d):fq n d≤k:=by
 unfold fq;rw[if_pos hd,Int.fdiv_eq_ediv_of_nonneg _ (by omega)]
 exact Int.le_of_lt_add_one (Int.ediv_lt_of_lt_mul (by omega) (by rw[Int.add_mul];omega))
theorem aSt {n d k:Int} (hd:1≤d) (h:k*d≤n):k≤fq n d:=by
 unfold fq;rw[if_pos hd,Int.fdiv_eq_ediv_of_nonneg _ (by omega)]
 exact Int.le_ediv_of_mul_le (by omega) h
theorem pQ {s a d:Int} (ha:1≤a) (hd:1≤d∧d≤65535) (hs : -1125899906842624*a≤s∧s≤1125899906842624*a) : -9223372036854775808≤fq (fq (s*2+a*d) d) (2*a)∧fq (fq (s*2+a*d) d) (2*a)≤9223372036854775807:=by
 have had1:a*d≤a*65535:=Int.mul_le_mul_of_nonneg_left hd.2 (by omega)
 have had0:0≤a*d:=Int.mul_nonneg (by omega) (by omega)
 have hb:=aQd (s*2+a*d) d
 have h1:fq (s*2+a*d) d≤4503599627370496*(2*a):=by omega
 have h2 : -4503599627370496*(2*a)≤fq (s*2+a*d) d:=by omega
 have g1:=aSI (d:=2*a) (by omega) h1
 have g2:=aSt (d:=2*a) (by omega) h2
 omega
theorem aAi {n w:Int} (hn : -1125899906842624≤n∧n≤1125899906842624) (hw:0≤w) : -1125899906842624*w≤n*w∧n*w≤1125899906842624*w:=
 ⟨Int.mul_le_mul_of_nonneg_right hn.1 hw,Int.mul_le_mul_of_nonneg_right hn.2 hw⟩
theorem mL {n0 n1 n2 w0 w1 w2:Int} (h0 : -1125899906842624≤n0∧n0≤1125899906842624) (h1 : -1125899906842624≤n1∧n1≤1125899906842624) (h2 : -1125899906842624≤n2∧n2≤1125899906842624) (g0:0≤w0) (g1:0≤w1) (g2:0≤w2):
  -1125899906842624*(w0+w1+w2)≤0+n0*w0+n1*w1+n2*w2∧0+n0*w0+n1*w1+n2*w2≤1125899906842624*(w0+w1+w2):=by
 have a0:=aAi h0 g0;have a1:=aAi h1 g1;have a2:=aAi h2 g2
 omega
theorem kP {n0 n1 n2 w0 w1 w2:Int} (h0 : -1125899906842624≤n0∧n0≤1125899906842624) (h1 : -1125899906842624≤n1∧n1≤1125899906842624) (h2 : -1125899906842624≤n2∧n2≤1125899906842624) (g0:w0≤0) (g1:w1≤0) (g2:w2≤0):
  -1125899906842624*(0-(w0+w1+w2))≤0-(0+n0*w0+n1*w1+n2*w2)∧0-(0+n0*w0+n1*w1+n2*w2)≤1125899906842624*(0-(w0+w1+w2)):=by
 have a0:=aAi h0 (show 0 ≤ -w0 by omega);have a1:=aAi h1 (show 0 ≤ -w1 by omega);have a2:=aAi h2 (show 0 ≤ -w2 by omega)
 rw[Int.mul_neg,Int.mul_neg,Int.mul_neg]at a0 a1 a2
 omega
theorem tH (a b c:Int) (h:(-671088640≤a∧a≤671088640)∧(-671088640≤b∧b≤671088640)∧(-671088640≤c∧c≤671088640)):0≤aDg a b c∧aDg a b c≤2700000:=by
 unfold aDg
 rw[Int.fdiv_eq_ediv_of_nonneg _ (by decide)]
 omega
theorem qC (m a b c:Int):uD m a b c≤m:=by unfold uD;omega
theorem aET {n0 n1 n2 d w0 w1 w2:Int} (b0 : -1125899906842624≤n0∧n0≤1125899906842624) (b1 : -1125899906842624≤n1∧n1≤1125899906842624) (b2 : -1125899906842624≤n2∧n2≤1125899906842624) (bd:1≤d∧d≤65535) (hf:mY w0 w1 w2):
  ((w0+w1+w2)<0→2*(0-(w0+w1+w2))≤9223372036854775807 ∧ -9223372036854775808≤G 71 [G 71 [(0-(0+n0*w0+n1*w1+n2*w2))*2+(0-(w0+w1+w2))*d,d],2*(0-(w0+w1+w2))]∧G 71 [G 71 [(0-(0+n0*w0+n1*w1+n2*w2))*2+(0-(w0+w1+w2))*d,d],2*(0-(w0+w1+w2))]≤9223372036854775807)∧(¬(w0+w1+w2)<0→2*(w0+w1+w2)≤9223372036854775807∧1≤2*(w0+w1+w2) ∧ -9223372036854775808≤G 71 [G 71 [(0+n0*w0+n1*w1+n2*w2)*2+(w0+w1+w2)*d,d],2*(w0+w1+w2)]∧G 71 [G 71 [(0+n0*w0+n1*w1+n2*w2)*2+(w0+w1+w2)*d,d],2*(w0+w1+w2)]≤9223372036854775807):=by
 obtain⟨hA,⟨p0,p1,p2,p3⟩|⟨p0,p1,p2,p3⟩⟩:=hf
 ·refine⟨fun h=>by omega,fun _=>⟨by omega,by omega,?_⟩⟩
  have hS:=mL b0 b1 b2 p0 p1 p2
  exact pQ (s:=(0+n0*w0+n1*w1+n2*w2)) (a:=(w0+w1+w2)) (d:=d) p3 bd hS
 ·refine⟨fun _=>⟨by omega,?_⟩,fun h=>by omega⟩
  have hS:=kP b0 b1 b2 p0 p1 p2
  exact pQ (s:=(0-(0+n0*w0+n1*w1+n2*w2))) (a:=(0-(w0+w1+w2))) (d:=d) (by omega) bd hS
theorem aNn {n0 n1 n2 d w0 w1 w2:Int} (h:(w0+w1+w2)<0):max (-2147483648) (min 2147483647 (G 71 [G 71 [(0-(0+n0*w0+n1*w1+n2*w2))*2+(0-(w0+w1+w2))*d,d],2*(0-(w0+w1+w2))]))=G 70 [n0,n1,n2,d,w0,w1,w2]:=by
 show _=(if (w0+w1+w2)<0 then _ else _)
 rw[if_pos h];rfl
theorem aLy {n0 n1 n2 d w0 w1 w2:Int} (h:¬(w0+w1+w2)<0):max (-2147483648) (min 2147483647 (G 71 [G 71 [(0+n0*w0+n1*w1+n2*w2)*2+(w0+w1+w2)*d,d],2*(w0+w1+w2)]))=G 70 [n0,n1,n2,d,w0,w1,w2]:=by
 show _=(if (w0+w1+w2)<0 then _ else _)
 rw[if_neg h];rfl
theorem aEw {n0 n1 n2 n3 d w0 w1 w2 w3:Int} (b0 : -1125899906842624≤n0∧n0≤1125899906842624) (b1 : -1125899906842624≤n1∧n1≤1125899906842624) (b2 : -1125899906842624≤n2∧n2≤1125899906842624) (b3 : -1125899906842624≤n3∧n3≤1125899906842624) (bd:1≤d∧d≤65535) (p0:0≤w0) (p1:0≤w1) (p2:0≤w2) (p3:0≤w3) (hp:1≤(w0+w1+w2+w3)) : -9223372036854775808≤G 71 [G 71 [(0+n0*w0+n1*w1+n2*w2+n3*w3)*2+(w0+w1+w2+w3)*d,d],2*(w0+w1+w2+w3)]∧G 71 [G 71 [(0+n0*w0+n1*w1+n2*w2+n3*w3)*2+(w0+w1+w2+w3)*d,d],2*(w0+w1+w2+w3)]≤9223372036854775807:=by
 have a0:=aAi b0 p0;have a1:=aAi b1 p1;have a2:=aAi b2 p2;have a3:=aAi b3 p3
 exact pQ (s:=(0+n0*w0+n1*w1+n2*w2+n3*w3)) (a:=(w0+w1+w2+w3)) (d:=d) hp bd (by omega)
theorem aLi {n0 n1 n2 n3 d w0 w1 w2 w3:Int}:max (-2147483648) (min 2147483647 (G 71 [G 71 [(0+n0*w0+n1*w1+n2*w2+n3*w3)*2+(w0+w1+w2+w3)*d,d],2*(w0+w1+w2+w3)]))=G 73 [n0,n1,n2,n3,d,w0,w1,w2,w3]:=rfl
theorem aF {p:Int × Int} {l:List (Int × Int)} {xs:List Int} (h:jN (p::l) xs):∃ x ys,xs=x::ys∧(p.1≤x∧x≤p.2)∧jN l ys:=by
 cases xs with
 |nil=>exact h.elim
 |cons x ys=>exact⟨x,ys,rfl,h.1,h.2⟩
theorem pG {xs:List Int} (h:jN [] xs):xs=[]:=by
 cases xs with
 |nil=>rfl
 |cons x ys=>exact h.elim
theorem aDn {α:Type} {xs:List α} (h:xs.length=1):∃ a,xs=[a]:=by
 match xs,h with
 |[a],_=>exact⟨a,rfl⟩
theorem aP2 {a b c d e f x y:Int} (h:¬G 63 [a,b,c,d,e,f,x,y]=0):
  (-3602879701896396800≤G 64 [a,b,c,d,e,f,x,y]+G 65 [a,b,c,d,e,f,x,y]+G 66 [a,b,c,d,e,f,x,y]∧G 64 [a,b,c,d,e,f,x,y]+G 65 [a,b,c,d,e,f,x,y]+G 66 [a,b,c,d,e,f,x,y]≤3602879701896396800)∧((0≤G 64 [a,b,c,d,e,f,x,y]∧0≤G 65 [a,b,c,d,e,f,x,y]∧0≤G 66 [a,b,c,d,e,f,x,y]∧1≤G 64 [a,b,c,d,e,f,x,y]+G 65 [a,b,c,d,e,f,x,y]+G 66 [a,b,c,d,e,f,x,y])∨(G 64 [a,b,c,d,e,f,x,y]≤0∧G 65 [a,b,c,d,e,f,x,y]≤0∧G 66 [a,b,c,d,e,f,x,y]≤0∧G 64 [a,b,c,d,e,f,x,y]+G 65 [a,b,c,d,e,f,x,y]+G 66 [a,b,c,d,e,f,x,y] ≤ -1)):=aNF h
theorem aJW {y x w h n:Int} (hn:n=w*h) (hy:0≤y∧y<h) (hw:0≤w) (hx:x<w):y*w+x<n:=by
 have h1:=Int.mul_le_mul_of_nonneg_right (show y+1≤h by omega) hw
 rw[Int.add_mul,Int.one_mul]at h1
 rw[hn,Int.mul_comm w h]
 omega
def aCf:List (Int × Int):=[((-9223372036854775808),9223372036854775807),(0,18446744073709551615),((-9223372036854775808),9223372036854775807),((-9223372036854775808),9223372036854775807),(0,18446744073709551615),((-9223372036854775808),9223372036854775807),((-9223372036854775808),9223372036854775807),(0,18446744073709551615),((-9223372036854775808),9223372036854775807)]
def cO:B:=(.and (.cmp .le (.lit (-1125899906842624)) (.op .add (.op .mul (.var 0) (.lit 18446744073709551616)) (.var 1))) (.and (.cmp .le (.op .add (.op .mul (.var 0) (.lit 18446744073709551616)) (.var 1)) (.lit 1125899906842624)) (.and (.cmp .le (.lit (-1125899906842624)) (.op .add (.op .mul (.var 3) (.lit 18446744073709551616)) (.var 4))) (.and (.cmp .le (.op .add (.op .mul (.var 3) (.lit 18446744073709551616)) (.var 4)) (.lit 1125899906842624)) (.and (.cmp .le (.lit (-1125899906842624)) (.op .add (.op .mul (.var 6) (.lit 18446744073709551616)) (.var 7))) (.and (.cmp .le (.op .add (.op .mul (.var 6) (.lit 18446744073709551616)) (.var 7)) (.lit 1125899906842624)) (.and (.cmp .le (.lit 1) (.var 2)) (.and (.cmp .le (.var 2) (.lit 65535)) (.and (.cmp .eq (.var 5) (.var 2)) (.cmp .eq (.var 8) (.var 2)))))))))))
def aF8:FunS:=⟨[.slice 0 0 3 3],[some ([(.int .i64 (.var 0)),(.int .u64 (.var 1)),(.int .i64 (.var 2)),(.int .i64 (.var 3)),(.int .u64 (.var 4)),(.int .i64 (.var 5)),(.int .i64 (.var 6)),(.int .u64 (.var 7)),(.int .i64 (.var 8))],37)],.lit true,.bool cO,[some ([(.int .i64 (.var 0)),(.int .u64 (.var 1)),(.int .i64 (.var 2)),(.int .i64 (.var 3)),(.int .u64 (.var 4)),(.int .i64 (.var 5)),(.int .i64 (.var 6)),(.int .u64 (.var 7)),(.int .i64 (.var 8))],37)],.bool cO,[some ([(.int .i64 (.var 0)),(.int .u64 (.var 1)),(.int .i64 (.var 2)),(.int .i64 (.var 3)),(.int .u64 (.var 4)),(.int .i64 (.var 5)),(.int .i64 (.var 6)),(.int .u64 (.var 7)),(.int .i64 (.var 8))],37)]⟩
def aD0 (P:Program) (fs:List B):Res SV:=bY G GI aCf fs fun X=>lX P X GB vQ iH 4000 36 aF8
end Go.Proofs.Ytoiecphddchknaa
set_option maxRecDepth 100000
namespace Go.Proofs.Ytoiecphddchknaa
open Go Go.RowKit Sx Wi
def fZ (P:Program) (fs:List B):Res SV:=aD0 P fs
def aDV:List B:=[]
def dE:B:=(.cmp .lt (.var 2) (.lit 1))
def aMo:List B:=aK dE++aDV
def eT:SV:=(.tuple [(.agg [(.bool (.lit false)),(.bool (.and (.cmp .le (.lit (-1125899906842624)) (.op .add (.op .mul (.var 0) (.lit 18446744073709551616)) (.var 1))) (.and (.cmp .le (.op .add (.op .mul (.var 0) (.lit 18446744073709551616)) (.var 1)) (.lit 1125899906842624)) (.and (.cmp .le (.lit (-1125899906842624)) (.op .add (.op .mul (.var 3) (.lit 18446744073709551616)) (.var 4))) (.and (.cmp .le (.op .add (.op .mul (.var 3) (.lit 18446744073709551616)) (.var 4)) (.lit 1125899906842624)) (.and (.cmp .le (.lit (-1125899906842624)) (.op .add (.op .mul (.var 6) (.lit 18446744073709551616)) (.var 7))) (.and (.cmp .le (.op .add (.op .mul (.var 6) (.lit 18446744073709551616)) (.var 7)) (.lit 1125899906842624)) (.and (.cmp .le (.lit 1) (.var 2)) (.and (.cmp .le (.var 2) (.lit 65535)) (.and (.cmp .eq (.var 5) (.var 2)) (.cmp .eq (.var 8) (.var 2))))))))))))]),(.bool (.lit true))])
def aDe:List B:=aK (B.neg dE)++aDV
def dO:B:=(.cmp .lt (.lit 65535) (.var 2))
def aLd:List B:=aK dO++aDe
def aDc:List B:=aK (B.neg dO)++aDe
def dX:B:=(.cmp .lt (.lit 1125899906842624) (.op .add (.op .mul (.var 0) (.lit 18446744073709551616)) (.var 1)))
def aMi:List B:=aK dX++aDc
def aDG:List B:=aK (B.neg dX)++aDc
def eH:B:=(.cmp .lt (.op .add (.op .mul (.var 0) (.lit 18446744073709551616)) (.var 1)) (.lit (-1125899906842624)))
def aNc:List B:=aK eH++aDG
def aDh:List B:=aK (B.neg eH)++aDG
def eY:B:=(.cmp .ne (.var 5) (.var 2))
def aKM:List B:=aK eY++aDh
def aBh:List B:=aK (B.neg eY)++aDh
def fF:B:=(.cmp .lt (.var 5) (.lit 1))
def aIB:List B:=aK fF++aBh
def aAs:List B:=aK (B.neg fF)++aBh
def gG:B:=(.cmp .lt (.lit 65535) (.var 5))
def aHw:List B:=aK gG++aAs
def aBb:List B:=aK (B.neg gG)++aAs
def gT:B:=(.cmp .lt (.lit 1125899906842624) (.op .add (.op .mul (.var 3) (.lit 18446744073709551616)) (.var 4)))
def aIk:List B:=aK gT++aBb
def aAw:List B:=aK (B.neg gT)++aBb
def iO:B:=(.cmp .lt (.op .add (.op .mul (.var 3) (.lit 18446744073709551616)) (.var 4)) (.lit (-1125899906842624)))
def aHT:List B:=aK iO++aAw
def aBi:List B:=aK (B.neg iO)++aAw
def jL:B:=(.cmp .ne (.var 8) (.var 2))
def aJr:List B:=aK jL++aBi
def aA1:List B:=aK (B.neg jL)++aBi
def jJ:B:=(.cmp .lt (.var 8) (.lit 1))
def aHu:List B:=aK jJ++aA1
def aAO:List B:=aK (B.neg jJ)++aA1
def kD:B:=(.cmp .lt (.lit 65535) (.var 8))
def aIw:List B:=aK kD++aAO
def aAN:List B:=aK (B.neg kD)++aAO
def lN:B:=(.cmp .lt (.lit 1125899906842624) (.op .add (.op .mul (.var 6) (.lit 18446744073709551616)) (.var 7)))
def aJd:List B:=aK lN++aAN
def aAo:List B:=aK (B.neg lN)++aAN
def mX:B:=(.cmp .lt (.op .add (.op .mul (.var 6) (.lit 18446744073709551616)) (.var 7)) (.lit (-1125899906842624)))
def aJg:List B:=aK mX++aAo
def aI3:List B:=aK (B.neg mX)++aAo
def aLV:SV:=(.tuple [(.agg [(.bool (.lit true)),(.bool (.and (.cmp .le (.lit (-1125899906842624)) (.op .add (.op .mul (.var 0) (.lit 18446744073709551616)) (.var 1))) (.and (.cmp .le (.op .add (.op .mul (.var 0) (.lit 18446744073709551616)) (.var 1)) (.lit 1125899906842624)) (.and (.cmp .le (.lit (-1125899906842624)) (.op .add (.op .mul (.var 3) (.lit 18446744073709551616)) (.var 4))) (.and (.cmp .le (.op .add (.op .mul (.var 3) (.lit 18446744073709551616)) (.var 4)) (.lit 1125899906842624)) (.and (.cmp .le (.lit (-1125899906842624)) (.op .add (.op .mul (.var 6) (.lit 18446744073709551616)) (.var 7))) (.and (.cmp .le (.op .add (.op .mul (.var 6) (.lit 18446744073709551616)) (.var 7)) (.lit 1125899906842624)) (.and (.cmp .le (.lit 1) (.var 2)) (.and (.cmp .le (.var 2) (.lit 65535)) (.and (.cmp .eq (.var 5) (.var 2)) (.cmp .eq (.var 8) (.var 2))))))))))))]),(.bool (.lit true))])
theorem aMP:fZ Try.prog aMo = .ok eT:=by kernel_rfl
theorem aLh:fZ Try.prog aLd = .ok eT:=by kernel_rfl
theorem aJZ:fZ Try.prog aMi = .ok eT:=by kernel_rfl
theorem aKL:fZ Try.prog aNc = .ok eT:=by kernel_rfl
theorem aNe:fZ Try.prog aKM = .ok eT:=by kernel_rfl
theorem aHY:fZ Try.prog aIB = .ok eT:=by kernel_rfl
theorem aIr:fZ Try.prog aHw = .ok eT:=by kernel_rfl
theorem aIV:fZ Try.prog aIk = .ok eT:=by kernel_rfl
theorem aI6:fZ Try.prog aHT = .ok eT:=by kernel_rfl
theorem aHJ:fZ Try.prog aJr = .ok eT:=by kernel_rfl
theorem aH6:fZ Try.prog aHu = .ok eT:=by kernel_rfl
theorem aHM:fZ Try.prog aIw = .ok eT:=by kernel_rfl
theorem aHH:fZ Try.prog aJd = .ok eT:=by kernel_rfl
theorem aId:fZ Try.prog aJg = .ok eT:=by kernel_rfl
theorem aIK:fZ Try.prog aI3 = .ok aLV:=by kernel_rfl
end Go.Proofs.Ytoiecphddchknaa
namespace Go.Proofs.Ytoiecphddchknaa
open Go Go.RowKit Sx Wi
set_option maxHeartbeats 4000000 in
set_option maxRecDepth 100000 in
theorem aK2 (x0 x1 x2 x3 x4 x5 x6 x7 x8:Int) (b0:(-9223372036854775808)≤x0∧x0≤9223372036854775807) (b1:0≤x1∧x1≤18446744073709551615) (b2:(-9223372036854775808)≤x2∧x2≤9223372036854775807) (b3:(-9223372036854775808)≤x3∧x3≤9223372036854775807) (b4:0≤x4∧x4≤18446744073709551615) (b5:(-9223372036854775808)≤x5∧x5≤9223372036854775807) (b6:(-9223372036854775808)≤x6∧x6≤9223372036854775807) (b7:0≤x7∧x7≤18446744073709551615) (b8:(-9223372036854775808)≤x8∧x8≤9223372036854775807):kU Try.prog G GB 36 aF8 (dP ([x0,x1,x2,x3,x4,x5,x6,x7,x8]:List Int)):=by
 refine fT (lp:=iH) (run:=aD0 Try.prog) (fun _=>rfl) fits (cF ⟨b0,b1,b2,b3,b4,b5,b6,b7,b8,trivial⟩) gM (fun X hX hG=>lS hX hG) (fun X hX hG fn c hf hc=>gB) rfl ?_
 clear b0 b1 b2 b3 b4 b5 b6 b7 b8
 refine aI dE (fun h0=>?_) (fun h0=>?_)
 ·skip
  refine aG aMP ?_
  unfold dE at h0;simp only[cG];refine⟨rfl,?_⟩;simp only[aR];refine⟨?_,trivial⟩;show false=B.den G (dP ([x0,x1,x2,x3,x4,x5,x6,x7,x8]:List Int)) cO;refine Eq.symm ?_;unfold cO;rw[Bool.eq_false_iff];intro h;simp only[nn,List.cons_append,List.nil_append,aL,ne_eq]at *;(try simp only[Bool.and_eq_true,decide_eq_true_eq]at *);omega
 refine aI dO (fun h1=>?_) (fun h1=>?_)
 ·skip
  refine aG aLh ?_
  unfold dE at h0;unfold dO at h1;simp only[cG];refine⟨rfl,?_⟩;simp only[aR];refine⟨?_,trivial⟩;show false=B.den G (dP ([x0,x1,x2,x3,x4,x5,x6,x7,x8]:List Int)) cO;refine Eq.symm ?_;unfold cO;rw[Bool.eq_false_iff];intro h;simp only[nn,List.cons_append,List.nil_append,aL,ne_eq]at *;(try simp only[Bool.and_eq_true,decide_eq_true_eq]at *);omega
 refine aI dX (fun h2=>?_) (fun h2=>?_)
 ·skip
  refine aG aJZ ?_
  unfold dE at h0;unfold dO at h1;unfold dX at h2;simp only[cG];refine⟨rfl,?_⟩;simp only[aR];refine⟨?_,trivial⟩;show false=B.den G (dP ([x0,x1,x2,x3,x4,x5,x6,x7,x8]:List Int)) cO;refine Eq.symm ?_;unfold cO;rw[Bool.eq_false_iff];intro h;simp only[nn,List.cons_append,List.nil_append,aL,ne_eq]at *;(try simp only[Bool.and_eq_true,decide_eq_true_eq]at *);omega
 refine aI eH (fun h3=>?_) (fun h3=>?_)
 ·skip
  refine aG aKL ?_
  unfold dE at h0;unfold dO at h1;unfold dX at h2;unfold eH at h3;simp only[cG];refine⟨rfl,?_⟩;simp only[aR];refine⟨?_,trivial⟩;show false=B.den G (dP ([x0,x1,x2,x3,x4,x5,x6,x7,x8]:List Int)) cO;refine Eq.symm ?_;unfold cO;rw[Bool.eq_false_iff];intro h;simp only[nn,List.cons_append,List.nil_append,aL,ne_eq]at *;(try simp only[Bool.and_eq_true,decide_eq_true_eq]at *);omega
 refine aI eY (fun h4=>?_) (fun h4=>?_)
 ·skip
  refine aG aNe ?_
  unfold dE at h0;unfold dO at h1;unfold dX at h2;unfold eH at h3;unfold eY at h4;simp only[cG];refine⟨rfl,?_⟩;simp only[aR];refine⟨?_,trivial⟩;show false=B.den G (dP ([x0,x1,x2,x3,x4,x5,x6,x7,x8]:List Int)) cO;refine Eq.symm ?_;unfold cO;rw[Bool.eq_false_iff];intro h;simp only[nn,List.cons_append,List.nil_append,aL,ne_eq]at *;(try simp only[Bool.and_eq_true,decide_eq_true_eq]at *);omega
 refine aI fF (fun h5=>?_) (fun h5=>?_)
 ·skip
  refine aG aHY ?_
  unfold dE at h0;unfold dO at h1;unfold dX at h2;unfold eH at h3;unfold eY at h4;unfold fF at h5;simp only[cG];refine⟨rfl,?_⟩;simp only[aR];refine⟨?_,trivial⟩;show false=B.den G (dP ([x0,x1,x2,x3,x4,x5,x6,x7,x8]:List Int)) cO;refine Eq.symm ?_;unfold cO;rw[Bool.eq_false_iff];intro h;simp only[nn,List.cons_append,List.nil_append,aL,ne_eq]at *;(try simp only[Bool.and_eq_true,decide_eq_true_eq]at *);omega
 refine aI gG (fun h6=>?_) (fun h6=>?_)
 ·skip
  refine aG aIr ?_
  unfold dE at h0;unfold dO at h1;unfold dX at h2;unfold eH at h3;unfold eY at h4;unfold fF at h5;unfold gG at h6;simp only[cG];refine⟨rfl,?_⟩;simp only[aR];refine⟨?_,trivial⟩;show false=B.den G (dP ([x0,x1,x2,x3,x4,x5,x6,x7,x8]:List Int)) cO;refine Eq.symm ?_;unfold cO;rw[Bool.eq_false_iff];intro h;simp only[nn,List.cons_append,List.nil_append,aL,ne_eq]at *;(try simp only[Bool.and_eq_true,decide_eq_true_eq]at *);omega
 refine aI gT (fun h7=>?_) (fun h7=>?_)
 ·skip
  refine aG aIV ?_
  unfold dE at h0;unfold dO at h1;unfold dX at h2;unfold eH at h3;unfold eY at h4;unfold fF at h5;unfold gG at h6;unfold gT at h7;simp only[cG];refine⟨rfl,?_⟩;simp only[aR];refine⟨?_,trivial⟩;show false=B.den G (dP ([x0,x1,x2,x3,x4,x5,x6,x7,x8]:List Int)) cO;refine Eq.symm ?_;unfold cO;rw[Bool.eq_false_iff];intro h;simp only[nn,List.cons_append,List.nil_append,aL,ne_eq]at *;(try simp only[Bool.and_eq_true,decide_eq_true_eq]at *);omega
 refine aI iO (fun h8=>?_) (fun h8=>?_)
 ·skip
  refine aG aI6 ?_
  unfold dE at h0;unfold dO at h1;unfold dX at h2;unfold eH at h3;unfold eY at h4;unfold fF at h5;unfold gG at h6;unfold gT at h7;unfold iO at h8;simp only[cG];refine⟨rfl,?_⟩;simp only[aR];refine⟨?_,trivial⟩;show false=B.den G (dP ([x0,x1,x2,x3,x4,x5,x6,x7,x8]:List Int)) cO;refine Eq.symm ?_;unfold cO;rw[Bool.eq_false_iff];intro h;simp only[nn,List.cons_append,List.nil_append,aL,ne_eq]at *;(try simp only[Bool.and_eq_true,decide_eq_true_eq]at *);omega
 refine aI jL (fun h9=>?_) (fun h9=>?_)
 ·skip
  refine aG aHJ ?_
  unfold dE at h0;unfold dO at h1;unfold dX at h2;unfold eH at h3;unfold eY at h4;unfold fF at h5;unfold gG at h6;unfold gT at h7;unfold iO at h8;unfold jL at h9;simp only[cG];refine⟨rfl,?_⟩;simp only[aR];refine⟨?_,trivial⟩;show false=B.den G (dP ([x0,x1,x2,x3,x4,x5,x6,x7,x8]:List Int)) cO;refine Eq.symm ?_;unfold cO;rw[Bool.eq_false_iff];intro h;simp only[nn,List.cons_append,List.nil_append,aL,ne_eq]at *;(try simp only[Bool.and_eq_true,decide_eq_true_eq]at *);omega
 refine aI jJ (fun h10=>?_) (fun h10=>?_)
 ·skip
  refine aG aH6 ?_
  unfold dE at h0;unfold dO at h1;unfold dX at h2;unfold eH at h3;unfold eY at h4;unfold fF at h5;unfold gG at h6;unfold gT at h7;unfold iO at h8;unfold jL at h9;unfold jJ at h10;simp only[cG];refine⟨rfl,?_⟩;simp only[aR];refine⟨?_,trivial⟩;show false=B.den G (dP ([x0,x1,x2,x3,x4,x5,x6,x7,x8]:List Int)) cO;refine Eq.symm ?_;unfold cO;rw[Bool.eq_false_iff];intro h;simp only[nn,List.cons_append,List.nil_append,aL,ne_eq]at *;(try simp only[Bool.and_eq_true,decide_eq_true_eq]at *);omega
 refine aI kD (fun h11=>?_) (fun h11=>?_)
 ·skip
  refine aG aHM ?_
  unfold dE at h0;unfold dO at h1;unfold dX at h2;unfold eH at h3;unfold eY at h4;unfold fF at h5;unfold gG at h6;unfold gT at h7;unfold iO at h8;unfold jL at h9;unfold jJ at h10;unfold kD at h11;simp only[cG];refine⟨rfl,?_⟩;simp only[aR];refine⟨?_,trivial⟩;show false=B.den G (dP ([x0,x1,x2,x3,x4,x5,x6,x7,x8]:List Int)) cO;refine Eq.symm ?_;unfold cO;rw[Bool.eq_false_iff];intro h;simp only[nn,List.cons_append,List.nil_append,aL,ne_eq]at *;(try simp only[Bool.and_eq_true,decide_eq_true_eq]at *);omega
 refine aI lN (fun h12=>?_) (fun h12=>?_)
 ·skip
  refine aG aHH ?_
  unfold dE at h0;unfold dO at h1;unfold dX at h2;unfold eH at h3;unfold eY at h4;unfold fF at h5;unfold gG at h6;unfold gT at h7;unfold iO at h8;unfold jL at h9;unfold jJ at h10;unfold kD at h11;unfold lN at h12;simp only[cG];refine⟨rfl,?_⟩;simp only[aR];refine⟨?_,trivial⟩;show false=B.den G (dP ([x0,x1,x2,x3,x4,x5,x6,x7,x8]:List Int)) cO;refine Eq.symm ?_;unfold cO;rw[Bool.eq_false_iff];intro h;simp only[nn,List.cons_append,List.nil_append,aL,ne_eq]at *;(try simp only[Bool.and_eq_true,decide_eq_true_eq]at *);omega
 refine aI mX (fun h13=>?_) (fun h13=>?_)
 ·skip
  refine aG aId ?_
  unfold dE at h0;unfold dO at h1;unfold dX at h2;unfold eH at h3;unfold eY at h4;unfold fF at h5;unfold gG at h6;unfold gT at h7;unfold iO at h8;unfold jL at h9;unfold jJ at h10;unfold kD at h11;unfold lN at h12;unfold mX at h13;simp only[cG];refine⟨rfl,?_⟩;simp only[aR];refine⟨?_,trivial⟩;show false=B.den G (dP ([x0,x1,x2,x3,x4,x5,x6,x7,x8]:List Int)) cO;refine Eq.symm ?_;unfold cO;rw[Bool.eq_false_iff];intro h;simp only[nn,List.cons_append,List.nil_append,aL,ne_eq]at *;(try simp only[Bool.and_eq_true,decide_eq_true_eq]at *);omega
 refine aG aIK ?_
 unfold dE at h0;unfold dO at h1;unfold dX at h2;unfold eH at h3;unfold eY at h4;unfold fF at h5;unfold gG at h6;unfold gT at h7;unfold iO at h8;unfold jL at h9;unfold jJ at h10;unfold kD at h11;unfold lN at h12;unfold mX at h13;simp only[cG];refine⟨rfl,?_⟩;simp only[aR];refine⟨?_,trivial⟩;show true=B.den G (dP ([x0,x1,x2,x3,x4,x5,x6,x7,x8]:List Int)) cO;refine Eq.symm ?_;unfold cO;simp only[nn,List.cons_append,List.nil_append,aL,ne_eq]at *;(try simp only[Bool.and_eq_true,decide_eq_true_eq]at *);omega
def xH:Ctx→List SV→aM→Res (SV × aM):=iM GB aCf 0 (.lit true) aF8
theorem aNz {X:Ctx} {ρ:Nat→Int} (hX:X.Ok ρ) (hG:X.G=G):jS Try.prog X ρ GB 36 xH:=by
 obtain⟨XG,XI,XV,XF⟩:=X
 simp only at hG
 subst hG
 refine fO hX ?_
 intro xs ls hw hl hp
 unfold aCf at hw
 obtain⟨x0,y0,e0,b0,h0⟩:=aF hw
 obtain⟨x1,y1,e1,b1,h1⟩:=aF h0
 obtain⟨x2,y2,e2,b2,h2⟩:=aF h1
 obtain⟨x3,y3,e3,b3,h3⟩:=aF h2
 obtain⟨x4,y4,e4,b4,h4⟩:=aF h3
 obtain⟨x5,y5,e5,b5,h5⟩:=aF h4
 obtain⟨x6,y6,e6,b6,h6⟩:=aF h5
 obtain⟨x7,y7,e7,b7,h7⟩:=aF h6
 obtain⟨x8,y8,e8,b8,h8⟩:=aF h7
 have e9:=pG h8
 subst e9 e8 e7 e6 e5 e4 e3 e2 e1 e0
 have hl':ls=[]:=List.length_eq_zero_iff.1 hl
 subst hl'
 rw[List.append_nil]
 exact aK2 x0 x1 x2 x3 x4 x5 x6 x7 x8 b0 b1 b2 b3 b4 b5 b6 b7 b8
def aCg (g:Ctx→List SV→aM→Res (SV × aM)):Ctx→List SV→aM→Res (SV × aM):=fun X args σ=>
 (g X args σ).bind fun r=>match r.1 with
  | .bool b=>(Res.testW X b).bind fun t => .ok (.bool (.lit t),r.2)
  |_ => .ok r
theorem aBw {P:Program} {X:Ctx} {ρ:Nat→Int} {gb:dL} {f:FuncId} {g:Ctx→List SV→aM→Res (SV × aM)} (hX:X.Ok ρ) (hg:jS P X ρ gb f g):jS P X ρ gb f (aCg g):=by
 intro args σ s σ' e α w vals hW hv
 unfold aCg at e
 obtain⟨r,hr,e⟩:=Res.bind_ok e
 obtain⟨s0,σ0⟩:=r
 obtain⟨hk,hc⟩:=hg args σ s0 σ0 hr α w vals hW hv
 refine⟨hk,hc.mono ?_⟩
 rintro en w' ⟨v,α',rfl,rv,q⟩
 simp only at e
 split at e
 ·rename_i _ b
  obtain⟨t,ht,e⟩:=Res.bind_ok e
  have ht:=Res.testW_ok hX ht
  cases e
  refine⟨v,α',rfl,?_,q⟩
  simp only[SV.R,B.den]at rv ⊢
  rw[rv,ht]
 ·cases e;exact⟨v,α',rfl,rv,q⟩
def oZ:Ctx→List SV→aM→Res (SV × aM):=aCg xH
theorem aCL {X:Ctx} {ρ:Nat→Int} (hX:X.Ok ρ) (hG:X.G=G):jS Try.prog X ρ GB 36 oZ:=aBw hX (aNz hX hG)
set_option maxHeartbeats 4000000 in
set_option maxRecDepth 100000 in
theorem aJY (x0 x1 x2 x3 x4 x5 x6 x7 x8 x9 x10 x11:Int) (b0:(-9223372036854775808)≤x0∧x0≤9223372036854775807) (b1:0≤x1∧x1≤18446744073709551615) (b2:(-9223372036854775808)≤x2∧x2≤9223372036854775807) (b3:(-9223372036854775808)≤x3∧x3≤9223372036854775807) (b4:0≤x4∧x4≤18446744073709551615) (b5:(-9223372036854775808)≤x5∧x5≤9223372036854775807) (b6:(-9223372036854775808)≤x6∧x6≤9223372036854775807) (b7:0≤x7∧x7≤18446744073709551615) (b8:(-9223372036854775808)≤x8∧x8≤9223372036854775807) (b9:(-9223372036854775808)≤x9∧x9≤9223372036854775807) (b10:0≤x10∧x10≤18446744073709551615) (b11:(-9223372036854775808)≤x11∧x11≤9223372036854775807):kU Try.prog G GB 36 aEt (dP ([x0,x1,x2,x3,x4,x5,x6,x7,x8,x9,x10,x11]:List Int)):=by
 refine fT (lp:=iH) (run:=aDY Try.prog) (fun _=>rfl) fits (cF ⟨b0,b1,b2,b3,b4,b5,b6,b7,b8,b9,b10,b11,trivial⟩) gM (fun X hX hG=>lS hX hG) (fun X hX hG fn c hf hc=>gB) rfl ?_
 clear b0 b1 b2 b3 b4 b5 b6 b7 b8 b9 b10 b11
 refine aI cE (fun h0=>?_) (fun h0=>?_)
 ·skip
  refine aG aMT ?_
  unfold cE at h0;simp only[cG];refine⟨rfl,?_⟩;simp only[aR];refine⟨?_,trivial⟩;show false=B.den G (dP ([x0,x1,x2,x3,x4,x5,x6,x7,x8,x9,x10,x11]:List Int)) bR;refine Eq.symm ?_;unfold bR;rw[Bool.eq_false_iff];intro h;simp only[nn,List.cons_append,List.nil_append,aL,ne_eq]at *;(try simp only[Bool.and_eq_true,decide_eq_true_eq]at *);omega
 refine aI cJ (fun h1=>?_) (fun h1=>?_)
 ·skip
  refine aG aLO ?_
  unfold cE at h0;unfold cJ at h1;simp only[cG];refine⟨rfl,?_⟩;simp only[aR];refine⟨?_,trivial⟩;show false=B.den G (dP ([x0,x1,x2,x3,x4,x5,x6,x7,x8,x9,x10,x11]:List Int)) bR;refine Eq.symm ?_;unfold bR;rw[Bool.eq_false_iff];intro h;simp only[nn,List.cons_append,List.nil_append,aL,ne_eq]at *;(try simp only[Bool.and_eq_true,decide_eq_true_eq]at *);omega
 refine aI cN (fun h2=>?_) (fun h2=>?_)
 ·skip
  refine aG aM2 ?_
  unfold cE at h0;unfold cJ at h1;unfold cN at h2;simp only[cG];refine⟨rfl,?_⟩;simp only[aR];refine⟨?_,trivial⟩;show false=B.den G (dP ([x0,x1,x2,x3,x4,x5,x6,x7,x8,x9,x10,x11]:List Int)) bR;refine Eq.symm ?_;unfold bR;rw[Bool.eq_false_iff];intro h;simp only[nn,List.cons_append,List.nil_append,aL,ne_eq]at *;(try simp only[Bool.and_eq_true,decide_eq_true_eq]at *);omega
 refine aI cR (fun h3=>?_) (fun h3=>?_)
 ·skip
  refine aG aLQ ?_
  unfold cE at h0;unfold cJ at h1;unfold cN at h2;unfold cR at h3;simp only[cG];refine⟨rfl,?_⟩;simp only[aR];refine⟨?_,trivial⟩;show false=B.den G (dP ([x0,x1,x2,x3,x4,x5,x6,x7,x8,x9,x10,x11]:List Int)) bR;refine Eq.symm ?_;unfold bR;rw[Bool.eq_false_iff];intro h;simp only[nn,List.cons_append,List.nil_append,aL,ne_eq]at *;(try simp only[Bool.and_eq_true,decide_eq_true_eq]at *);omega
 refine aI cW (fun h4=>?_) (fun h4=>?_)
 ·skip
  refine aG aMO ?_
  unfold cE at h0;unfold cJ at h1;unfold cN at h2;unfold cR at h3;unfold cW at h4;simp only[cG];refine⟨rfl,?_⟩;simp only[aR];refine⟨?_,trivial⟩;show false=B.den G (dP ([x0,x1,x2,x3,x4,x5,x6,x7,x8,x9,x10,x11]:List Int)) bR;refine Eq.symm ?_;unfold bR;rw[Bool.eq_false_iff];intro h;simp only[nn,List.cons_append,List.nil_append,aL,ne_eq]at *;(try simp only[Bool.and_eq_true,decide_eq_true_eq]at *);omega
 refine aI dF (fun h5=>?_) (fun h5=>?_)
 ·skip
  refine aG aJm ?_
  unfold cE at h0;unfold cJ at h1;unfold cN at h2;unfold cR at h3;unfold cW at h4;unfold dF at h5;simp only[cG];refine⟨rfl,?_⟩;simp only[aR];refine⟨?_,trivial⟩;show false=B.den G (dP ([x0,x1,x2,x3,x4,x5,x6,x7,x8,x9,x10,x11]:List Int)) bR;refine Eq.symm ?_;unfold bR;rw[Bool.eq_false_iff];intro h;simp only[nn,List.cons_append,List.nil_append,aL,ne_eq]at *;(try simp only[Bool.and_eq_true,decide_eq_true_eq]at *);omega
 refine aI dN (fun h6=>?_) (fun h6=>?_)
 ·skip
  refine aG aJC ?_
  unfold cE at h0;unfold cJ at h1;unfold cN at h2;unfold cR at h3;unfold cW at h4;unfold dF at h5;unfold dN at h6;simp only[cG];refine⟨rfl,?_⟩;simp only[aR];refine⟨?_,trivial⟩;show false=B.den G (dP ([x0,x1,x2,x3,x4,x5,x6,x7,x8,x9,x10,x11]:List Int)) bR;refine Eq.symm ?_;unfold bR;rw[Bool.eq_false_iff];intro h;simp only[nn,List.cons_append,List.nil_append,aL,ne_eq]at *;(try simp only[Bool.and_eq_true,decide_eq_true_eq]at *);omega
 refine aI dV (fun h7=>?_) (fun h7=>?_)
 ·skip
  refine aG aIn ?_
  unfold cE at h0;unfold cJ at h1;unfold cN at h2;unfold cR at h3;unfold cW at h4;unfold dF at h5;unfold dN at h6;unfold dV at h7;simp only[cG];refine⟨rfl,?_⟩;simp only[aR];refine⟨?_,trivial⟩;show false=B.den G (dP ([x0,x1,x2,x3,x4,x5,x6,x7,x8,x9,x10,x11]:List Int)) bR;refine Eq.symm ?_;unfold bR;rw[Bool.eq_false_iff];intro h;simp only[nn,List.cons_append,List.nil_append,aL,ne_eq]at *;(try simp only[Bool.and_eq_true,decide_eq_true_eq]at *);omega
 refine aI eK (fun h8=>?_) (fun h8=>?_)
 ·skip
  refine aG aJA ?_
  unfold cE at h0;unfold cJ at h1;unfold cN at h2;unfold cR at h3;unfold cW at h4;unfold dF at h5;unfold dN at h6;unfold dV at h7;unfold eK at h8;simp only[cG];refine⟨rfl,?_⟩;simp only[aR];refine⟨?_,trivial⟩;show false=B.den G (dP ([x0,x1,x2,x3,x4,x5,x6,x7,x8,x9,x10,x11]:List Int)) bR;refine Eq.symm ?_;unfold bR;rw[Bool.eq_false_iff];intro h;simp only[nn,List.cons_append,List.nil_append,aL,ne_eq]at *;(try simp only[Bool.and_eq_true,decide_eq_true_eq]at *);omega
 refine aI eX (fun h9=>?_) (fun h9=>?_)
 ·skip
  refine aG aIU ?_
  unfold cE at h0;unfold cJ at h1;unfold cN at h2;unfold cR at h3;unfold cW at h4;unfold dF at h5;unfold dN at h6;unfold dV at h7;unfold eK at h8;unfold eX at h9;simp only[cG];refine⟨rfl,?_⟩;simp only[aR];refine⟨?_,trivial⟩;show false=B.den G (dP ([x0,x1,x2,x3,x4,x5,x6,x7,x8,x9,x10,x11]:List Int)) bR;refine Eq.symm ?_;unfold bR;rw[Bool.eq_false_iff];intro h;simp only[nn,List.cons_append,List.nil_append,aL,ne_eq]at *;(try simp only[Bool.and_eq_true,decide_eq_true_eq]at *);omega
 refine aI eF (fun h10=>?_) (fun h10=>?_)
 ·skip
  refine aG aIa ?_
  unfold cE at h0;unfold cJ at h1;unfold cN at h2;unfold cR at h3;unfold cW at h4;unfold dF at h5;unfold dN at h6;unfold dV at h7;unfold eK at h8;unfold eX at h9;unfold eF at h10;simp only[cG];refine⟨rfl,?_⟩;simp only[aR];refine⟨?_,trivial⟩;show false=B.den G (dP ([x0,x1,x2,x3,x4,x5,x6,x7,x8,x9,x10,x11]:List Int)) bR;refine Eq.symm ?_;unfold bR;rw[Bool.eq_false_iff];intro h;simp only[nn,List.cons_append,List.nil_append,aL,ne_eq]at *;(try simp only[Bool.and_eq_true,decide_eq_true_eq]at *);omega
 refine aI eP (fun h11=>?_) (fun h11=>?_)
 ·skip
  refine aG aIL ?_
  unfold cE at h0;unfold cJ at h1;unfold cN at h2;unfold cR at h3;unfold cW at h4;unfold dF at h5;unfold dN at h6;unfold dV at h7;unfold eK at h8;unfold eX at h9;unfold eF at h10;unfold eP at h11;simp only[cG];refine⟨rfl,?_⟩;simp only[aR];refine⟨?_,trivial⟩;show false=B.den G (dP ([x0,x1,x2,x3,x4,x5,x6,x7,x8,x9,x10,x11]:List Int)) bR;refine Eq.symm ?_;unfold bR;rw[Bool.eq_false_iff];intro h;simp only[nn,List.cons_append,List.nil_append,aL,ne_eq]at *;(try simp only[Bool.and_eq_true,decide_eq_true_eq]at *);omega
 refine aI fH (fun h12=>?_) (fun h12=>?_)
 ·skip
  refine aG aJI ?_
  unfold cE at h0;unfold cJ at h1;unfold cN at h2;unfold cR at h3;unfold cW at h4;unfold dF at h5;unfold dN at h6;unfold dV at h7;unfold eK at h8;unfold eX at h9;unfold eF at h10;unfold eP at h11;unfold fH at h12;simp only[cG];refine⟨rfl,?_⟩;simp only[aR];refine⟨?_,trivial⟩;show false=B.den G (dP ([x0,x1,x2,x3,x4,x5,x6,x7,x8,x9,x10,x11]:List Int)) bR;refine Eq.symm ?_;unfold bR;rw[Bool.eq_false_iff];intro h;simp only[nn,List.cons_append,List.nil_append,aL,ne_eq]at *;(try simp only[Bool.and_eq_true,decide_eq_true_eq]at *);omega
 refine aI gI (fun h13=>?_) (fun h13=>?_)
 ·skip
  refine aG aJl ?_
  unfold cE at h0;unfold cJ at h1;unfold cN at h2;unfold cR at h3;unfold cW at h4;unfold dF at h5;unfold dN at h6;unfold dV at h7;unfold eK at h8;unfold eX at h9;unfold eF at h10;unfold eP at h11;unfold fH at h12;unfold gI at h13;simp only[cG];refine⟨rfl,?_⟩;simp only[aR];refine⟨?_,trivial⟩;show false=B.den G (dP ([x0,x1,x2,x3,x4,x5,x6,x7,x8,x9,x10,x11]:List Int)) bR;refine Eq.symm ?_;unfold bR;rw[Bool.eq_false_iff];intro h;simp only[nn,List.cons_append,List.nil_append,aL,ne_eq]at *;(try simp only[Bool.and_eq_true,decide_eq_true_eq]at *);omega
 refine aI iE (fun h14=>?_) (fun h14=>?_)
 ·skip
  refine aG aIu ?_
  unfold cE at h0;unfold cJ at h1;unfold cN at h2;unfold cR at h3;unfold cW at h4;unfold dF at h5;unfold dN at h6;unfold dV at h7;unfold eK at h8;unfold eX at h9;unfold eF at h10;unfold eP at h11;unfold fH at h12;unfold gI at h13;unfold iE at h14;simp only[cG];refine⟨rfl,?_⟩;simp only[aR];refine⟨?_,trivial⟩;show false=B.den G (dP ([x0,x1,x2,x3,x4,x5,x6,x7,x8,x9,x10,x11]:List Int)) bR;refine Eq.symm ?_;unfold bR;rw[Bool.eq_false_iff];intro h;simp only[nn,List.cons_append,List.nil_append,aL,ne_eq]at *;(try simp only[Bool.and_eq_true,decide_eq_true_eq]at *);omega
 refine aI jH (fun h15=>?_) (fun h15=>?_)
 ·skip
  refine aG aJE ?_
  unfold cE at h0;unfold cJ at h1;unfold cN at h2;unfold cR at h3;unfold cW at h4;unfold dF at h5;unfold dN at h6;unfold dV at h7;unfold eK at h8;unfold eX at h9;unfold eF at h10;unfold eP at h11;unfold fH at h12;unfold gI at h13;unfold iE at h14;unfold jH at h15;simp only[cG];refine⟨rfl,?_⟩;simp only[aR];refine⟨?_,trivial⟩;show false=B.den G (dP ([x0,x1,x2,x3,x4,x5,x6,x7,x8,x9,x10,x11]:List Int)) bR;refine Eq.symm ?_;unfold bR;rw[Bool.eq_false_iff];intro h;simp only[nn,List.cons_append,List.nil_append,aL,ne_eq]at *;(try simp only[Bool.and_eq_true,decide_eq_true_eq]at *);omega
 refine aI jZ (fun h16=>?_) (fun h16=>?_)
 ·skip
  refine aG aHx ?_
  unfold cE at h0;unfold cJ at h1;unfold cN at h2;unfold cR at h3;unfold cW at h4;unfold dF at h5;unfold dN at h6;unfold dV at h7;unfold eK at h8;unfold eX at h9;unfold eF at h10;unfold eP at h11;unfold fH at h12;unfold gI at h13;unfold iE at h14;unfold jH at h15;unfold jZ at h16;simp only[cG];refine⟨rfl,?_⟩;simp only[aR];refine⟨?_,trivial⟩;show false=B.den G (dP ([x0,x1,x2,x3,x4,x5,x6,x7,x8,x9,x10,x11]:List Int)) bR;refine Eq.symm ?_;unfold bR;rw[Bool.eq_false_iff];intro h;simp only[nn,List.cons_append,List.nil_append,aL,ne_eq]at *;(try simp only[Bool.and_eq_true,decide_eq_true_eq]at *);omega
 refine aI lH (fun h17=>?_) (fun h17=>?_)
 ·skip
  refine aG aI4 ?_
  unfold cE at h0;unfold cJ at h1;unfold cN at h2;unfold cR at h3;unfold cW at h4;unfold dF at h5;unfold dN at h6;unfold dV at h7;unfold eK at h8;unfold eX at h9;unfold eF at h10;unfold eP at h11;unfold fH at h12;unfold gI at h13;unfold iE at h14;unfold jH at h15;unfold jZ at h16;unfold lH at h17;simp only[cG];refine⟨rfl,?_⟩;simp only[aR];refine⟨?_,trivial⟩;show false=B.den G (dP ([x0,x1,x2,x3,x4,x5,x6,x7,x8,x9,x10,x11]:List Int)) bR;refine Eq.symm ?_;unfold bR;rw[Bool.eq_false_iff];intro h;simp only[nn,List.cons_append,List.nil_append,aL,ne_eq]at *;(try simp only[Bool.and_eq_true,decide_eq_true_eq]at *);omega
 refine aI mZ (fun h18=>?_) (fun h18=>?_)
 ·skip
  refine aG aHE ?_
  unfold cE at h0;unfold cJ at h1;unfold cN at h2;unfold cR at h3;unfold cW at h4;unfold dF at h5;unfold dN at h6;unfold dV at h7;unfold eK at h8;unfold eX at h9;unfold eF at h10;unfold eP at h11;unfold fH at h12;unfold gI at h13;unfold iE at h14;unfold jH at h15;unfold jZ at h16;unfold lH at h17;unfold mZ at h18;simp only[cG];refine⟨rfl,?_⟩;simp only[aR];refine⟨?_,trivial⟩;show false=B.den G (dP ([x0,x1,x2,x3,x4,x5,x6,x7,x8,x9,x10,x11]:List Int)) bR;refine Eq.symm ?_;unfold bR;rw[Bool.eq_false_iff];intro h;simp only[nn,List.cons_append,List.nil_append,aL,ne_eq]at *;(try simp only[Bool.and_eq_true,decide_eq_true_eq]at *);omega
 refine aG aH4 ?_
 unfold cE at h0;unfold cJ at h1;unfold cN at h2;unfold cR at h3;unfold cW at h4;unfold dF at h5;unfold dN at h6;unfold dV at h7;unfold eK at h8;unfold eX at h9;unfold eF at h10;unfold eP at h11;unfold fH at h12;unfold gI at h13;unfold iE at h14;unfold jH at h15;unfold jZ at h16;unfold lH at h17;unfold mZ at h18;simp only[cG];refine⟨rfl,?_⟩;simp only[aR];refine⟨?_,trivial⟩;show true=B.den G (dP ([x0,x1,x2,x3,x4,x5,x6,x7,x8,x9,x10,x11]:List Int)) bR;refine Eq.symm ?_;unfold bR;simp only[nn,List.cons_append,List.nil_append,aL,ne_eq]at *;(try simp only[Bool.and_eq_true,decide_eq_true_eq]at *);omega
def xB:Ctx→List SV→aM→Res (SV × aM):=iM GB aBO 0 (.lit true) aEt
theorem aPA {X:Ctx} {ρ:Nat→Int} (hX:X.Ok ρ) (hG:X.G=G):jS Try.prog X ρ GB 36 xB:=by
 obtain⟨XG,XI,XV,XF⟩:=X
 simp only at hG
 subst hG
 refine fO hX ?_
 intro xs ls hw hl hp
 unfold aBO at hw
 obtain⟨x0,y0,e0,b0,h0⟩:=aF hw
 obtain⟨x1,y1,e1,b1,h1⟩:=aF h0
 obtain⟨x2,y2,e2,b2,h2⟩:=aF h1
 obtain⟨x3,y3,e3,b3,h3⟩:=aF h2
 obtain⟨x4,y4,e4,b4,h4⟩:=aF h3
 obtain⟨x5,y5,e5,b5,h5⟩:=aF h4
 obtain⟨x6,y6,e6,b6,h6⟩:=aF h5
 obtain⟨x7,y7,e7,b7,h7⟩:=aF h6
 obtain⟨x8,y8,e8,b8,h8⟩:=aF h7
 obtain⟨x9,y9,e9,b9,h9⟩:=aF h8
 obtain⟨x10,y10,e10,b10,h10⟩:=aF h9
 obtain⟨x11,y11,e11,b11,h11⟩:=aF h10
 have e12:=pG h11
 subst e12 e11 e10 e9 e8 e7 e6 e5 e4 e3 e2 e1 e0
 have hl':ls=[]:=List.length_eq_zero_iff.1 hl
 subst hl'
 rw[List.append_nil]
 exact aJY x0 x1 x2 x3 x4 x5 x6 x7 x8 x9 x10 x11 b0 b1 b2 b3 b4 b5 b6 b7 b8 b9 b10 b11
def vM:Ctx→List SV→aM→Res (SV × aM):=aCg xB
theorem aKi {X:Ctx} {ρ:Nat→Int} (hX:X.Ok ρ) (hG:X.G=G):jS Try.prog X ρ GB 36 vM:=aBw hX (aPA hX hG)
def aB0:List (Int × Int):=[((-9223372036854775808),9223372036854775807),(0,18446744073709551615),((-9223372036854775808),9223372036854775807),(0,18446744073709551615),((-9223372036854775808),9223372036854775807),(0,18446744073709551615),((-9223372036854775808),9223372036854775807),((-1801615772808642560),1801615772808642560),((-1801615772808642560),1801615772808642560),((-1801615772808642560),1801615772808642560)]
def tE:B:=(.and (.cmp .le (.lit (-1125899906842624)) (.op .add (.op .mul (.var 0) (.lit 18446744073709551616)) (.var 1))) (.and (.cmp .le (.op .add (.op .mul (.var 0) (.lit 18446744073709551616)) (.var 1)) (.lit 1125899906842624)) (.and (.cmp .le (.lit (-1125899906842624)) (.op .add (.op .mul (.var 2) (.lit 18446744073709551616)) (.var 3))) (.and (.cmp .le (.op .add (.op .mul (.var 2) (.lit 18446744073709551616)) (.var 3)) (.lit 1125899906842624)) (.and (.cmp .le (.lit (-1125899906842624)) (.op .add (.op .mul (.var 4) (.lit 18446744073709551616)) (.var 5))) (.and (.cmp .le (.op .add (.op .mul (.var 4) (.lit 18446744073709551616)) (.var 5)) (.lit 1125899906842624)) (.and (.cmp .le (.lit 1) (.var 6)) (.and (.cmp .le (.var 6) (.lit 65535)) (.and (.and (.cmp .le (.lit (-3602879701896396800)) (.op .add (.op .add (.var 7) (.var 8)) (.var 9))) (.cmp .le (.op .add (.op .add (.var 7) (.var 8)) (.var 9)) (.lit 3602879701896396800))) (.or (.and (.cmp .le (.lit 0) (.var 7)) (.and (.cmp .le (.lit 0) (.var 8)) (.and (.cmp .le (.lit 0) (.var 9)) (.cmp .le (.lit 1) (.op .add (.op .add (.var 7) (.var 8)) (.var 9)))))) (.and (.cmp .le (.var 7) (.lit 0)) (.and (.cmp .le (.var 8) (.lit 0)) (.and (.cmp .le (.var 9) (.lit 0)) (.cmp .le (.op .add (.op .add (.var 7) (.var 8)) (.var 9)) (.lit (-1))))))))))))))))
def aEg:FunS:=⟨[.slice 0 0 3 3,.slice 1 0 3 3,(.int .i64 (.var 6))],[some ([(.int .i64 (.var 0)),(.int .u64 (.var 1)),(.int .i64 (.var 2)),(.int .u64 (.var 3)),(.int .i64 (.var 4)),(.int .u64 (.var 5))],35),some ([(.int .i64 (.var 7)),(.int .i64 (.var 8)),(.int .i64 (.var 9))],51)],.lit true,(.int .i32 (.app 70 (.cons (.op .add (.op .mul (.var 0) (.lit 18446744073709551616)) (.var 1)) (.cons (.op .add (.op .mul (.var 2) (.lit 18446744073709551616)) (.var 3)) (.cons (.op .add (.op .mul (.var 4) (.lit 18446744073709551616)) (.var 5)) (.cons (.var 6) (.cons (.var 7) (.cons (.var 8) (.cons (.var 9) .nil))))))))),[some ([(.int .i64 (.var 0)),(.int .u64 (.var 1)),(.int .i64 (.var 2)),(.int .u64 (.var 3)),(.int .i64 (.var 4)),(.int .u64 (.var 5))],35),some ([(.int .i64 (.var 7)),(.int .i64 (.var 8)),(.int .i64 (.var 9))],51)],(.int .i32 (.app 70 (.cons (.op .add (.op .mul (.var 0) (.lit 18446744073709551616)) (.var 1)) (.cons (.op .add (.op .mul (.var 2) (.lit 18446744073709551616)) (.var 3)) (.cons (.op .add (.op .mul (.var 4) (.lit 18446744073709551616)) (.var 5)) (.cons (.var 6) (.cons (.var 7) (.cons (.var 8) (.cons (.var 9) .nil))))))))),[some ([(.int .i64 (.var 0)),(.int .u64 (.var 1)),(.int .i64 (.var 2)),(.int .u64 (.var 3)),(.int .i64 (.var 4)),(.int .u64 (.var 5))],35),some ([(.int .i64 (.var 7)),(.int .i64 (.var 8)),(.int .i64 (.var 9))],51)]⟩
def aCI (P:Program) (fs:List B):Res SV:=bY G GI aB0 fs fun X=>lX P X GB vQ iH 4000 120 aEg
end Go.Proofs.Ytoiecphddchknaa
