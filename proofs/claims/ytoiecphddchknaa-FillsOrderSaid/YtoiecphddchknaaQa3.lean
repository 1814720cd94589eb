/- What is proved: may numbers be: the run. No condition but the numbers' own bounds. -/
import Derived.Test.YtoiecphddchknaaQa2
import Derived.Test.YtoiecphddchknaaQg4
import Derived.Test.YtoiecphddchknaaQg6
import Derived.Test.YtoiecphddchknaaQg3
import Derived.Test.YtoiecphddchknaaQNn
import Derived.Test.YtoiecphddchknaaProg
set_option linter.unusedSimpArgs false
set_option linter.unusedVariables false
namespace Go.Proofs.Ytoiecphddchknaa
open Go Go.RowKit Sx Wi
def aBD:List (Int × Int):=[((-9223372036854775808),9223372036854775807),(0,18446744073709551615),((-9223372036854775808),9223372036854775807),((-9223372036854775808),9223372036854775807),(0,18446744073709551615),((-9223372036854775808),9223372036854775807),((-9223372036854775808),9223372036854775807),(0,18446744073709551615),((-9223372036854775808),9223372036854775807),((-9223372036854775808),9223372036854775807),(0,18446744073709551615),((-9223372036854775808),9223372036854775807)]
def bU:B:=(.and (.cmp .le (.lit (-1125899906842624)) (.op .add (.op .mul (.var 0) (.lit 18446744073709551616)) (.var 1))) (.and (.cmp .le (.op .add (.op .mul (.var 0) (.lit 18446744073709551616)) (.var 1)) (.lit 1125899906842624)) (.and (.cmp .le (.lit (-1125899906842624)) (.op .add (.op .mul (.var 3) (.lit 18446744073709551616)) (.var 4))) (.and (.cmp .le (.op .add (.op .mul (.var 3) (.lit 18446744073709551616)) (.var 4)) (.lit 1125899906842624)) (.and (.cmp .le (.lit (-1125899906842624)) (.op .add (.op .mul (.var 6) (.lit 18446744073709551616)) (.var 7))) (.and (.cmp .le (.op .add (.op .mul (.var 6) (.lit 18446744073709551616)) (.var 7)) (.lit 1125899906842624)) (.and (.cmp .le (.lit (-1125899906842624)) (.op .add (.op .mul (.var 9) (.lit 18446744073709551616)) (.var 10))) (.and (.cmp .le (.op .add (.op .mul (.var 9) (.lit 18446744073709551616)) (.var 10)) (.lit 1125899906842624)) (.and (.cmp .le (.lit 1) (.var 2)) (.and (.cmp .le (.var 2) (.lit 65535)) (.and (.cmp .eq (.var 5) (.var 2)) (.and (.cmp .eq (.var 8) (.var 2)) (.cmp .eq (.var 11) (.var 2))))))))))))))
def aEf:FunS:=⟨[.slice 0 0 4 4],[some ([(.int .i64 (.var 0)),(.int .u64 (.var 1)),(.int .i64 (.var 2)),(.int .i64 (.var 3)),(.int .u64 (.var 4)),(.int .i64 (.var 5)),(.int .i64 (.var 6)),(.int .u64 (.var 7)),(.int .i64 (.var 8)),(.int .i64 (.var 9)),(.int .u64 (.var 10)),(.int .i64 (.var 11))],37)],.lit true,.bool bU,[some ([(.int .i64 (.var 0)),(.int .u64 (.var 1)),(.int .i64 (.var 2)),(.int .i64 (.var 3)),(.int .u64 (.var 4)),(.int .i64 (.var 5)),(.int .i64 (.var 6)),(.int .u64 (.var 7)),(.int .i64 (.var 8)),(.int .i64 (.var 9)),(.int .u64 (.var 10)),(.int .i64 (.var 11))],37)],.bool bU,[some ([(.int .i64 (.var 0)),(.int .u64 (.var 1)),(.int .i64 (.var 2)),(.int .i64 (.var 3)),(.int .u64 (.var 4)),(.int .i64 (.var 5)),(.int .i64 (.var 6)),(.int .u64 (.var 7)),(.int .i64 (.var 8)),(.int .i64 (.var 9)),(.int .u64 (.var 10)),(.int .i64 (.var 11))],37)]⟩
def aCh (P:Program) (fs:List B):Res SV:=cV G GI aBD fs fun X=>nG P X GB aAh kC 4000 36 aEf
end Go.Proofs.Ytoiecphddchknaa
set_option maxRecDepth 100000
namespace Go.Proofs.Ytoiecphddchknaa
open Go Go.RowKit Sx Wi
def dV (P:Program) (fs:List B):Res SV:=aCh P fs
def aCM:List B:=[]
def cI:B:=(.cmp .lt (.var 2) (.lit 1))
def aIY:List B:=aM cI++aCM
def dF:SV:=(.tuple [(.agg [(.bool (.lit false)),(.bool (.and (.cmp .le (.lit (-1125899906842624)) (.op .add (.op .mul (.var 0) (.lit 18446744073709551616)) (.var 1))) (.and (.cmp .le (.op .add (.op .mul (.var 0) (.lit 18446744073709551616)) (.var 1)) (.lit 1125899906842624)) (.and (.cmp .le (.lit (-1125899906842624)) (.op .add (.op .mul (.var 3) (.lit 18446744073709551616)) (.var 4))) (.and (.cmp .le (.op .add (.op .mul (.var 3) (.lit 18446744073709551616)) (.var 4)) (.lit 1125899906842624)) (.and (.cmp .le (.lit (-1125899906842624)) (.op .add (.op .mul (.var 6) (.lit 18446744073709551616)) (.var 7))) (.and (.cmp .le (.op .add (.op .mul (.var 6) (.lit 18446744073709551616)) (.var 7)) (.lit 1125899906842624)) (.and (.cmp .le (.lit (-1125899906842624)) (.op .add (.op .mul (.var 9) (.lit 18446744073709551616)) (.var 10))) (.and (.cmp .le (.op .add (.op .mul (.var 9) (.lit 18446744073709551616)) (.var 10)) (.lit 1125899906842624)) (.and (.cmp .le (.lit 1) (.var 2)) (.and (.cmp .le (.var 2) (.lit 65535)) (.and (.cmp .eq (.var 5) (.var 2)) (.and (.cmp .eq (.var 8) (.var 2)) (.cmp .eq (.var 11) (.var 2)))))))))))))))]),(.bool (.lit true))])
def aCD:List B:=aM (B.neg cI)++aCM
def cM:B:=(.cmp .lt (.lit 65535) (.var 2))
def aKJ:List B:=aM cM++aCD
def aCq:List B:=aM (B.neg cM)++aCD
def cS:B:=(.cmp .lt (.lit 1125899906842624) (.op .add (.op .mul (.var 0) (.lit 18446744073709551616)) (.var 1)))
def aLb:List B:=aM cS++aCq
def aC0:List B:=aM (B.neg cS)++aCq
def cY:B:=(.cmp .lt (.op .add (.op .mul (.var 0) (.lit 18446744073709551616)) (.var 1)) (.lit (-1125899906842624)))
def aIp:List B:=aM cY++aC0
def aCK:List B:=aM (B.neg cY)++aC0
def dE:B:=(.cmp .ne (.var 5) (.var 2))
def aJc:List B:=aM dE++aCK
def aAn:List B:=aM (B.neg dE)++aCK
def dM:B:=(.cmp .lt (.var 5) (.lit 1))
def aHt:List B:=aM dM++aAn
def aAe:List B:=aM (B.neg dM)++aAn
def dQ:B:=(.cmp .lt (.lit 65535) (.var 5))
def aG7:List B:=aM dQ++aAe
def aAL:List B:=aM (B.neg dQ)++aAe
def dY:B:=(.cmp .lt (.lit 1125899906842624) (.op .add (.op .mul (.var 3) (.lit 18446744073709551616)) (.var 4)))
def aHC:List B:=aM dY++aAL
def aAr:List B:=aM (B.neg dY)++aAL
def eF:B:=(.cmp .lt (.op .add (.op .mul (.var 3) (.lit 18446744073709551616)) (.var 4)) (.lit (-1125899906842624)))
def aHX:List B:=aM eF++aAr
def aAP:List B:=aM (B.neg eF)++aAr
def eR:B:=(.cmp .ne (.var 8) (.var 2))
def aGE:List B:=aM eR++aAP
def aAw:List B:=aM (B.neg eR)++aAP
def eD:B:=(.cmp .lt (.var 8) (.lit 1))
def aGn:List B:=aM eD++aAw
def zT:List B:=aM (B.neg eD)++aAw
def eO:B:=(.cmp .lt (.lit 65535) (.var 8))
def aGu:List B:=aM eO++zT
def aAq:List B:=aM (B.neg eO)++zT
def fH:B:=(.cmp .lt (.lit 1125899906842624) (.op .add (.op .mul (.var 6) (.lit 18446744073709551616)) (.var 7)))
def aHU:List B:=aM fH++aAq
def aAB:List B:=aM (B.neg fH)++aAq
def fV:B:=(.cmp .lt (.op .add (.op .mul (.var 6) (.lit 18446744073709551616)) (.var 7)) (.lit (-1125899906842624)))
def aHc:List B:=aM fV++aAB
def zU:List B:=aM (B.neg fV)++aAB
def gQ:B:=(.cmp .ne (.var 11) (.var 2))
def aIa:List B:=aM gQ++zU
def aAv:List B:=aM (B.neg gQ)++zU
def iI:B:=(.cmp .lt (.var 11) (.lit 1))
def aHW:List B:=aM iI++aAv
def zE:List B:=aM (B.neg iI)++aAv
def jA:B:=(.cmp .lt (.lit 65535) (.var 11))
def aHx:List B:=aM jA++zE
def aAd:List B:=aM (B.neg jA)++zE
def kF:B:=(.cmp .lt (.lit 1125899906842624) (.op .add (.op .mul (.var 9) (.lit 18446744073709551616)) (.var 10)))
def aHP:List B:=aM kF++aAd
def aAH:List B:=aM (B.neg kF)++aAd
def lT:B:=(.cmp .lt (.op .add (.op .mul (.var 9) (.lit 18446744073709551616)) (.var 10)) (.lit (-1125899906842624)))
def aGW:List B:=aM lT++aAH
def aHo:List B:=aM (B.neg lT)++aAH
def aKk:SV:=(.tuple [(.agg [(.bool (.lit true)),(.bool (.and (.cmp .le (.lit (-1125899906842624)) (.op .add (.op .mul (.var 0) (.lit 18446744073709551616)) (.var 1))) (.and (.cmp .le (.op .add (.op .mul (.var 0) (.lit 18446744073709551616)) (.var 1)) (.lit 1125899906842624)) (.and (.cmp .le (.lit (-1125899906842624)) (.op .add (.op .mul (.var 3) (.lit 18446744073709551616)) (.var 4))) (.and (.cmp .le (.op .add (.op .mul (.var 3) (.lit 18446744073709551616)) (.var 4)) (.lit 1125899906842624)) (.and (.cmp .le (.lit (-1125899906842624)) (.op .add (.op .mul (.var 6) (.lit 18446744073709551616)) (.var 7))) (.and (.cmp .le (.op .add (.op .mul (.var 6) (.lit 18446744073709551616)) (.var 7)) (.lit 1125899906842624)) (.and (.cmp .le (.lit (-1125899906842624)) (.op .add (.op .mul (.var 9) (.lit 18446744073709551616)) (.var 10))) (.and (.cmp .le (.op .add (.op .mul (.var 9) (.lit 18446744073709551616)) (.var 10)) (.lit 1125899906842624)) (.and (.cmp .le (.lit 1) (.var 2)) (.and (.cmp .le (.var 2) (.lit 65535)) (.and (.cmp .eq (.var 5) (.var 2)) (.and (.cmp .eq (.var 8) (.var 2)) (.cmp .eq (.var 11) (.var 2)))))))))))))))]),(.bool (.lit true))])
theorem aKF:dV Try.prog aIY = .ok dF:=by kernel_rfl
theorem aLd:dV Try.prog aKJ = .ok dF:=by kernel_rfl
theorem aLh:dV Try.prog aLb = .ok dF:=by kernel_rfl
theorem aLl:dV Try.prog aIp = .ok dF:=by kernel_rfl
theorem aIT:dV Try.prog aJc = .ok dF:=by kernel_rfl
theorem aHn:dV Try.prog aHt = .ok dF:=by kernel_rfl
theorem aGx:dV Try.prog aG7 = .ok dF:=by kernel_rfl
theorem aGF:dV Try.prog aHC = .ok dF:=by kernel_rfl
theorem aHj:dV Try.prog aHX = .ok dF:=by kernel_rfl
theorem aIc:dV Try.prog aGE = .ok dF:=by kernel_rfl
theorem aIe:dV Try.prog aGn = .ok dF:=by kernel_rfl
theorem aGq:dV Try.prog aGu = .ok dF:=by kernel_rfl
theorem aG2:dV Try.prog aHU = .ok dF:=by kernel_rfl
theorem aHy:dV Try.prog aHc = .ok dF:=by kernel_rfl
theorem aG3:dV Try.prog aIa = .ok dF:=by kernel_rfl
theorem aG9:dV Try.prog aHW = .ok dF:=by kernel_rfl
theorem aGK:dV Try.prog aHx = .ok dF:=by kernel_rfl
theorem aG6:dV Try.prog aHP = .ok dF:=by kernel_rfl
theorem aGo:dV Try.prog aGW = .ok dF:=by kernel_rfl
theorem aHl:dV Try.prog aHo = .ok aKk:=by kernel_rfl
end Go.Proofs.Ytoiecphddchknaa
namespace Go.Proofs.Ytoiecphddchknaa
open Go Go.RowKit Sx Wi
theorem rL {a b p:Ed.D} (h:Ed.side a b p=1):0≤Ed.cross a b p:=by
 unfold Ed.side Ed.or3 at h
 rcases Ed.sg_cases (Ed.cross a b p)with⟨e,q⟩|⟨e,q⟩|⟨e,q⟩
 ·rw[e,if_pos (by omega)]at h;omega
 ·omega
 ·omega
theorem rR {a b p:Ed.D} (h:Ed.side a b p = -1):Ed.cross a b p≤0:=by
 unfold Ed.side Ed.or3 at h
 rcases Ed.sg_cases (Ed.cross a b p)with⟨e,q⟩|⟨e,q⟩|⟨e,q⟩
 ·omega
 ·omega
 ·rw[e,if_pos (by omega)]at h;omega
theorem aGm {a b c d e f x y:Int} (h:eV [a,b,c,d,e,f,x,y]≠0):
  (-3602879701896396800≤cN 0 [a,b,c,d,e,f,x,y]+cN 1 [a,b,c,d,e,f,x,y]+cN 2 [a,b,c,d,e,f,x,y]∧cN 0 [a,b,c,d,e,f,x,y]+cN 1 [a,b,c,d,e,f,x,y]+cN 2 [a,b,c,d,e,f,x,y]≤3602879701896396800)∧
  ((0≤cN 0 [a,b,c,d,e,f,x,y]∧0≤cN 1 [a,b,c,d,e,f,x,y]∧0≤cN 2 [a,b,c,d,e,f,x,y]∧1≤cN 0 [a,b,c,d,e,f,x,y]+cN 1 [a,b,c,d,e,f,x,y]+cN 2 [a,b,c,d,e,f,x,y])∨
   (cN 0 [a,b,c,d,e,f,x,y]≤0∧cN 1 [a,b,c,d,e,f,x,y]≤0∧cN 2 [a,b,c,d,e,f,x,y]≤0∧cN 0 [a,b,c,d,e,f,x,y]+cN 1 [a,b,c,d,e,f,x,y]+cN 2 [a,b,c,d,e,f,x,y] ≤ -1)):=by
 replace h:Ed.claim ⟨a,b⟩ ⟨c,d⟩ ⟨e,f⟩ ⟨x,y⟩≠0:=h
 show (_≤wt ⟨a,b⟩ ⟨c,d⟩ ⟨e,f⟩ ⟨x,y⟩ 0+wt ⟨a,b⟩ ⟨c,d⟩ ⟨e,f⟩ ⟨x,y⟩ 1+wt ⟨a,b⟩ ⟨c,d⟩ ⟨e,f⟩ ⟨x,y⟩ 2∧wt ⟨a,b⟩ ⟨c,d⟩ ⟨e,f⟩ ⟨x,y⟩ 0+wt ⟨a,b⟩ ⟨c,d⟩ ⟨e,f⟩ ⟨x,y⟩ 1+wt ⟨a,b⟩ ⟨c,d⟩ ⟨e,f⟩ ⟨x,y⟩ 2≤_)∧((0≤wt ⟨a,b⟩ ⟨c,d⟩ ⟨e,f⟩ ⟨x,y⟩ 0∧0≤wt ⟨a,b⟩ ⟨c,d⟩ ⟨e,f⟩ ⟨x,y⟩ 1∧0≤wt ⟨a,b⟩ ⟨c,d⟩ ⟨e,f⟩ ⟨x,y⟩ 2∧1≤wt ⟨a,b⟩ ⟨c,d⟩ ⟨e,f⟩ ⟨x,y⟩ 0+wt ⟨a,b⟩ ⟨c,d⟩ ⟨e,f⟩ ⟨x,y⟩ 1+wt ⟨a,b⟩ ⟨c,d⟩ ⟨e,f⟩ ⟨x,y⟩ 2)∨(wt ⟨a,b⟩ ⟨c,d⟩ ⟨e,f⟩ ⟨x,y⟩ 0≤0∧wt ⟨a,b⟩ ⟨c,d⟩ ⟨e,f⟩ ⟨x,y⟩ 1≤0∧wt ⟨a,b⟩ ⟨c,d⟩ ⟨e,f⟩ ⟨x,y⟩ 2≤0∧wt ⟨a,b⟩ ⟨c,d⟩ ⟨e,f⟩ ⟨x,y⟩ 0+wt ⟨a,b⟩ ⟨c,d⟩ ⟨e,f⟩ ⟨x,y⟩ 1+wt ⟨a,b⟩ ⟨c,d⟩ ⟨e,f⟩ ⟨x,y⟩ 2 ≤ -1))
 generalize (⟨a,b⟩:Ed.D)=A at *
 generalize (⟨c,d⟩:Ed.D)=B at *
 generalize (⟨e,f⟩:Ed.D)=C at *
 generalize (⟨x,y⟩:Ed.D)=p at *
 unfold Ed.claim at h
 split at h
 ·exact absurd rfl h
 rename_i h0
 have hp:Ed.ok p:=by
  by_cases q:Ed.ok p
  ·exact q
  ·exact absurd (Or.inr q) h0
 have ha0:Ed.sg (Ed.area A B C)≠0:=fun q=>h0 (Or.inl q)
 have hok:Ed.ok A∧Ed.ok B∧Ed.ok C:=by
  by_cases q:Ed.ok A∧Ed.ok B∧Ed.ok C
  ·exact q
  ·exact absurd (by unfold Ed.area;rw[if_neg q];rfl) ha0
 have har:Ed.area A B C=Ed.cross A B C:=by unfold Ed.area;rw[if_pos hok]
 have hbd:=aMw A B C
 rw[har]at h ha0 hbd
 split at h
 case isFalse=>exact absurd rfl h
 rename_i hs
 obtain⟨s0,s1,s2⟩:=hs
 have hk:fB A B C p:=⟨hok,hp⟩
 have w0:wt A B C p 0=Ed.cross B C p:=by unfold wt;rw[if_pos hk];rfl
 have w1:wt A B C p 1=Ed.cross C A p:=by unfold wt;rw[if_pos hk];rfl
 have w2:wt A B C p 2=Ed.cross A B p:=by unfold wt;rw[if_pos hk];rfl
 have hsum:=Ed.cross_sum A B C p
 rw[w0,w1,w2]
 rcases Ed.sg_cases (Ed.cross A B C)with⟨q,r⟩|⟨q,r⟩|⟨q,r⟩
 ·rw[q]at s0 s1 s2
  have t0:=rR s0;have t1:=rR s1;have t2:=rR s2
  exact⟨by omega,.inr ⟨t0,t1,t2,by omega⟩⟩
 ·exact absurd q ha0
 ·rw[q]at s0 s1 s2
  have t0:=rL s0;have t1:=rL s1;have t2:=rL s2
  exact⟨by omega,.inl ⟨t0,t1,t2,by omega⟩⟩
theorem aPF {n d k:Int} (hd:1≤d) (h:n≤k*d):fq n d≤k:=by
 unfold fq;rw[if_pos hd,Int.fdiv_eq_ediv_of_nonneg _ (by omega)]
 exact Int.le_of_lt_add_one (Int.ediv_lt_of_lt_mul (by omega) (by rw[Int.add_mul];omega))
theorem aPR {n d k:Int} (hd:1≤d) (h:k*d≤n):k≤fq n d:=by
 unfold fq;rw[if_pos hd,Int.fdiv_eq_ediv_of_nonneg _ (by omega)]
 exact Int.le_ediv_of_mul_le (by omega) h
theorem pY {s a d:Int} (ha:1≤a) (hd:1≤d∧d≤65535) (hs : -1125899906842624*a≤s∧s≤1125899906842624*a) : -9223372036854775808≤fq (fq (s*2+a*d) d) (2*a)∧fq (fq (s*2+a*d) d) (2*a)≤9223372036854775807:=by
 have had1:a*d≤a*65535:=Int.mul_le_mul_of_nonneg_left hd.2 (by omega)
 have had0:0≤a*d:=Int.mul_nonneg (by omega) (by omega)
 have hb:=aNI (s*2+a*d) d
 have h1:fq (s*2+a*d) d≤4503599627370496*(2*a):=by omega
 have h2 : -4503599627370496*(2*a)≤fq (s*2+a*d) d:=by omega
 have g1:=aPF (d:=2*a) (by omega) h1
 have g2:=aPR (d:=2*a) (by omega) h2
 omega
theorem zA {n w:Int} (hn : -1125899906842624≤n∧n≤1125899906842624) (hw:0≤w) : -1125899906842624*w≤n*w∧n*w≤1125899906842624*w:=
 ⟨Int.mul_le_mul_of_nonneg_right hn.1 hw,Int.mul_le_mul_of_nonneg_right hn.2 hw⟩
theorem mV {n0 n1 n2 w0 w1 w2:Int} (h0 : -1125899906842624≤n0∧n0≤1125899906842624) (h1 : -1125899906842624≤n1∧n1≤1125899906842624) (h2 : -1125899906842624≤n2∧n2≤1125899906842624) (g0:0≤w0) (g1:0≤w1) (g2:0≤w2):
  -1125899906842624*(w0+w1+w2)≤0+n0*w0+n1*w1+n2*w2∧0+n0*w0+n1*w1+n2*w2≤1125899906842624*(w0+w1+w2):=by
 have a0:=zA h0 g0;have a1:=zA h1 g1;have a2:=zA h2 g2
 omega
theorem kP {n0 n1 n2 w0 w1 w2:Int} (h0 : -1125899906842624≤n0∧n0≤1125899906842624) (h1 : -1125899906842624≤n1∧n1≤1125899906842624) (h2 : -1125899906842624≤n2∧n2≤1125899906842624) (g0:w0≤0) (g1:w1≤0) (g2:w2≤0):
  -1125899906842624*(0-(w0+w1+w2))≤0-(0+n0*w0+n1*w1+n2*w2)∧0-(0+n0*w0+n1*w1+n2*w2)≤1125899906842624*(0-(w0+w1+w2)):=by
 have a0:=zA h0 (show 0 ≤ -w0 by omega);have a1:=zA h1 (show 0 ≤ -w1 by omega);have a2:=zA h2 (show 0 ≤ -w2 by omega)
 rw[Int.mul_neg,Int.mul_neg,Int.mul_neg]at a0 a1 a2
 omega
theorem aCd (a b c:Int) (h:(-671088640≤a∧a≤671088640)∧(-671088640≤b∧b≤671088640)∧(-671088640≤c∧c≤671088640)):0≤uM a b c∧uM a b c≤2700000:=by
 unfold uM
 rw[Int.fdiv_eq_ediv_of_nonneg _ (by decide)]
 omega
theorem zM (m a b c:Int):mC m a b c≤m:=by unfold mC;omega
theorem aDD {n0 n1 n2 n3 d w0 w1 w2 w3:Int} (b0 : -1125899906842624≤n0∧n0≤1125899906842624) (b1 : -1125899906842624≤n1∧n1≤1125899906842624) (b2 : -1125899906842624≤n2∧n2≤1125899906842624) (b3 : -1125899906842624≤n3∧n3≤1125899906842624) (bd:1≤d∧d≤65535) (p0:0≤w0) (p1:0≤w1) (p2:0≤w2) (p3:0≤w3) (hp:1≤(w0+w1+w2+w3)) : -9223372036854775808≤G 71 [G 71 [(0+n0*w0+n1*w1+n2*w2+n3*w3)*2+(w0+w1+w2+w3)*d,d],2*(w0+w1+w2+w3)]∧G 71 [G 71 [(0+n0*w0+n1*w1+n2*w2+n3*w3)*2+(w0+w1+w2+w3)*d,d],2*(w0+w1+w2+w3)]≤9223372036854775807:=by
 have a0:=zA b0 p0;have a1:=zA b1 p1;have a2:=zA b2 p2;have a3:=zA b3 p3
 exact pY (s:=(0+n0*w0+n1*w1+n2*w2+n3*w3)) (a:=(w0+w1+w2+w3)) (d:=d) hp bd (by omega)
theorem aJQ {n0 n1 n2 n3 d w0 w1 w2 w3:Int}:max (-2147483648) (min 2147483647 (G 71 [G 71 [(0+n0*w0+n1*w1+n2*w2+n3*w3)*2+(w0+w1+w2+w3)*d,d],2*(w0+w1+w2+w3)]))=G 73 [n0,n1,n2,n3,d,w0,w1,w2,w3]:=rfl
theorem aF {p:Int × Int} {l:List (Int × Int)} {xs:List Int} (h:gT (p::l) xs):∃ x ys,xs=x::ys∧(p.1≤x∧x≤p.2)∧gT l ys:=by
 cases xs with
 |nil=>exact h.elim
 |cons x ys=>exact⟨x,ys,rfl,h.1,h.2⟩
theorem wL {xs:List Int} (h:gT [] xs):xs=[]:=by
 cases xs with
 |nil=>rfl
 |cons x ys=>exact h.elim
theorem aD7 {α:Type} {xs:List α} (h:xs.length=1):∃ a,xs=[a]:=by
 match xs,h with
 |[a],_=>exact⟨a,rfl⟩
theorem aPS {a b c d e f x y:Int} (h:¬G 63 [a,b,c,d,e,f,x,y]=0):
  (-3602879701896396800≤G 64 [a,b,c,d,e,f,x,y]+G 65 [a,b,c,d,e,f,x,y]+G 66 [a,b,c,d,e,f,x,y]∧G 64 [a,b,c,d,e,f,x,y]+G 65 [a,b,c,d,e,f,x,y]+G 66 [a,b,c,d,e,f,x,y]≤3602879701896396800)∧((0≤G 64 [a,b,c,d,e,f,x,y]∧0≤G 65 [a,b,c,d,e,f,x,y]∧0≤G 66 [a,b,c,d,e,f,x,y]∧1≤G 64 [a,b,c,d,e,f,x,y]+G 65 [a,b,c,d,e,f,x,y]+G 66 [a,b,c,d,e,f,x,y])∨(G 64 [a,b,c,d,e,f,x,y]≤0∧G 65 [a,b,c,d,e,f,x,y]≤0∧G 66 [a,b,c,d,e,f,x,y]≤0∧G 64 [a,b,c,d,e,f,x,y]+G 65 [a,b,c,d,e,f,x,y]+G 66 [a,b,c,d,e,f,x,y] ≤ -1)):=aGm h
theorem aOo {y x w h n:Int} (hn:n=w*h) (hy:0≤y∧y<h) (hw:0≤w) (hx:x<w):y*w+x<n:=by
 have h1:=Int.mul_le_mul_of_nonneg_right (show y+1≤h by omega) hw
 rw[Int.add_mul,Int.one_mul]at h1
 rw[hn,Int.mul_comm w h]
 omega
set_option maxHeartbeats 4000000 in
set_option maxRecDepth 100000 in
theorem aJr (x0 x1 x2 x3 x4 x5 x6 x7 x8 x9 x10 x11:Int) (b0:(-9223372036854775808)≤x0∧x0≤9223372036854775807) (b1:0≤x1∧x1≤18446744073709551615) (b2:(-9223372036854775808)≤x2∧x2≤9223372036854775807) (b3:(-9223372036854775808)≤x3∧x3≤9223372036854775807) (b4:0≤x4∧x4≤18446744073709551615) (b5:(-9223372036854775808)≤x5∧x5≤9223372036854775807) (b6:(-9223372036854775808)≤x6∧x6≤9223372036854775807) (b7:0≤x7∧x7≤18446744073709551615) (b8:(-9223372036854775808)≤x8∧x8≤9223372036854775807) (b9:(-9223372036854775808)≤x9∧x9≤9223372036854775807) (b10:0≤x10∧x10≤18446744073709551615) (b11:(-9223372036854775808)≤x11∧x11≤9223372036854775807):mE Try.prog G GB 36 aEf (fF ([x0,x1,x2,x3,x4,x5,x6,x7,x8,x9,x10,x11]:List Int)):=by
 refine jC (lp:=kC) (run:=aCh Try.prog) (fun _=>rfl) fits (dO ⟨b0,b1,b2,b3,b4,b5,b6,b7,b8,b9,b10,b11,trivial⟩) iM (fun X hX hG=>nK hX hG) (fun X hX hG fn c hf hc=>iB) rfl ?_
 clear b0 b1 b2 b3 b4 b5 b6 b7 b8 b9 b10 b11
 refine aL cI (fun h0=>?_) (fun h0=>?_)
 ·skip
  refine aH aKF ?_
  unfold cI at h0;simp only[fI];refine⟨rfl,?_⟩;simp only[aT];refine⟨?_,trivial⟩;show false=B.den G (fF ([x0,x1,x2,x3,x4,x5,x6,x7,x8,x9,x10,x11]:List Int)) bU;refine Eq.symm ?_;unfold bU;rw[Bool.eq_false_iff];intro h;simp only[nn,List.cons_append,List.nil_append,aS,ne_eq]at *;(try simp only[Bool.and_eq_true,decide_eq_true_eq]at *);omega
 refine aL cM (fun h1=>?_) (fun h1=>?_)
 ·skip
  refine aH aLd ?_
  unfold cI at h0;unfold cM at h1;simp only[fI];refine⟨rfl,?_⟩;simp only[aT];refine⟨?_,trivial⟩;show false=B.den G (fF ([x0,x1,x2,x3,x4,x5,x6,x7,x8,x9,x10,x11]:List Int)) bU;refine Eq.symm ?_;unfold bU;rw[Bool.eq_false_iff];intro h;simp only[nn,List.cons_append,List.nil_append,aS,ne_eq]at *;(try simp only[Bool.and_eq_true,decide_eq_true_eq]at *);omega
 refine aL cS (fun h2=>?_) (fun h2=>?_)
 ·skip
  refine aH aLh ?_
  unfold cI at h0;unfold cM at h1;unfold cS at h2;simp only[fI];refine⟨rfl,?_⟩;simp only[aT];refine⟨?_,trivial⟩;show false=B.den G (fF ([x0,x1,x2,x3,x4,x5,x6,x7,x8,x9,x10,x11]:List Int)) bU;refine Eq.symm ?_;unfold bU;rw[Bool.eq_false_iff];intro h;simp only[nn,List.cons_append,List.nil_append,aS,ne_eq]at *;(try simp only[Bool.and_eq_true,decide_eq_true_eq]at *);omega
 refine aL cY (fun h3=>?_) (fun h3=>?_)
 ·skip
  refine aH aLl ?_
  unfold cI at h0;unfold cM at h1;unfold cS at h2;unfold cY at h3;simp only[fI];refine⟨rfl,?_⟩;simp only[aT];refine⟨?_,trivial⟩;show false=B.den G (fF ([x0,x1,x2,x3,x4,x5,x6,x7,x8,x9,x10,x11]:List Int)) bU;refine Eq.symm ?_;unfold bU;rw[Bool.eq_false_iff];intro h;simp only[nn,List.cons_append,List.nil_append,aS,ne_eq]at *;(try simp only[Bool.and_eq_true,decide_eq_true_eq]at *);omega
 refine aL dE (fun h4=>?_) (fun h4=>?_)
 ·skip
  refine aH aIT ?_
  unfold cI at h0;unfold cM at h1;unfold cS at h2;unfold cY at h3;unfold dE at h4;simp only[fI];refine⟨rfl,?_⟩;simp only[aT];refine⟨?_,trivial⟩;show false=B.den G (fF ([x0,x1,x2,x3,x4,x5,x6,x7,x8,x9,x10,x11]:List Int)) bU;refine Eq.symm ?_;unfold bU;rw[Bool.eq_false_iff];intro h;simp only[nn,List.cons_append,List.nil_append,aS,ne_eq]at *;(try simp only[Bool.and_eq_true,decide_eq_true_eq]at *);omega
 refine aL dM (fun h5=>?_) (fun h5=>?_)
 ·skip
  refine aH aHn ?_
  unfold cI at h0;unfold cM at h1;unfold cS at h2;unfold cY at h3;unfold dE at h4;unfold dM at h5;simp only[fI];refine⟨rfl,?_⟩;simp only[aT];refine⟨?_,trivial⟩;show false=B.den G (fF ([x0,x1,x2,x3,x4,x5,x6,x7,x8,x9,x10,x11]:List Int)) bU;refine Eq.symm ?_;unfold bU;rw[Bool.eq_false_iff];intro h;simp only[nn,List.cons_append,List.nil_append,aS,ne_eq]at *;(try simp only[Bool.and_eq_true,decide_eq_true_eq]at *);omega
 refine aL dQ (fun h6=>?_) (fun h6=>?_)
 ·skip
  refine aH aGx ?_
  unfold cI at h0;unfold cM at h1;unfold cS at h2;unfold cY at h3;unfold dE at h4;unfold dM at h5;unfold dQ at h6;simp only[fI];refine⟨rfl,?_⟩;simp only[aT];refine⟨?_,trivial⟩;show false=B.den G (fF ([x0,x1,x2,x3,x4,x5,x6,x7,x8,x9,x10,x11]:List Int)) bU;refine Eq.symm ?_;unfold bU;rw[Bool.eq_false_iff];intro h;simp only[nn,List.cons_append,List.nil_append,aS,ne_eq]at *;(try simp only[Bool.and_eq_true,decide_eq_true_eq]at *);omega
 refine aL dY (fun h7=>?_) (fun h7=>?_)
 ·skip
  refine aH aGF ?_
  unfold cI at h0;unfold cM at h1;unfold cS at h2;unfold cY at h3;unfold dE at h4;unfold dM at h5;unfold dQ at h6;unfold dY at h7;simp only[fI];refine⟨rfl,?_⟩;simp only[aT];refine⟨?_,trivial⟩;show false=B.den G (fF ([x0,x1,x2,x3,x4,x5,x6,x7,x8,x9,x10,x11]:List Int)) bU;refine Eq.symm ?_;unfold bU;rw[Bool.eq_false_iff];intro h;simp only[nn,List.cons_append,List.nil_append,aS,ne_eq]at *;(try simp only[Bool.and_eq_true,decide_eq_true_eq]at *);omega
 refine aL eF (fun h8=>?_) (fun h8=>?_)
 ·skip
  refine aH aHj ?_
  unfold cI at h0;unfold cM at h1;unfold cS at h2;unfold cY at h3;unfold dE at h4;unfold dM at h5;unfold dQ at h6;unfold dY at h7;unfold eF at h8;simp only[fI];refine⟨rfl,?_⟩;simp only[aT];refine⟨?_,trivial⟩;show false=B.den G (fF ([x0,x1,x2,x3,x4,x5,x6,x7,x8,x9,x10,x11]:List Int)) bU;refine Eq.symm ?_;unfold bU;rw[Bool.eq_false_iff];intro h;simp only[nn,List.cons_append,List.nil_append,aS,ne_eq]at *;(try simp only[Bool.and_eq_true,decide_eq_true_eq]at *);omega
 refine aL eR (fun h9=>?_) (fun h9=>?_)
 ·skip
  refine aH aIc ?_
  unfold cI at h0;unfold cM at h1;unfold cS at h2;unfold cY at h3;unfold dE at h4;unfold dM at h5;unfold dQ at h6;unfold dY at h7;unfold eF at h8;unfold eR at h9;simp only[fI];refine⟨rfl,?_⟩;simp only[aT];refine⟨?_,trivial⟩;show false=B.den G (fF ([x0,x1,x2,x3,x4,x5,x6,x7,x8,x9,x10,x11]:List Int)) bU;refine Eq.symm ?_;unfold bU;rw[Bool.eq_false_iff];intro h;simp only[nn,List.cons_append,List.nil_append,aS,ne_eq]at *;(try simp only[Bool.and_eq_true,decide_eq_true_eq]at *);omega
 refine aL eD (fun h10=>?_) (fun h10=>?_)
 ·skip
  refine aH aIe ?_
  unfold cI at h0;unfold cM at h1;unfold cS at h2;unfold cY at h3;unfold dE at h4;unfold dM at h5;unfold dQ at h6;unfold dY at h7;unfold eF at h8;unfold eR at h9;unfold eD at h10;simp only[fI];refine⟨rfl,?_⟩;simp only[aT];refine⟨?_,trivial⟩;show false=B.den G (fF ([x0,x1,x2,x3,x4,x5,x6,x7,x8,x9,x10,x11]:List Int)) bU;refine Eq.symm ?_;unfold bU;rw[Bool.eq_false_iff];intro h;simp only[nn,List.cons_append,List.nil_append,aS,ne_eq]at *;(try simp only[Bool.and_eq_true,decide_eq_true_eq]at *);omega
 refine aL eO (fun h11=>?_) (fun h11=>?_)
 ·skip
  refine aH aGq ?_
  unfold cI at h0;unfold cM at h1;unfold cS at h2;unfold cY at h3;unfold dE at h4;unfold dM at h5;unfold dQ at h6;unfold dY at h7;unfold eF at h8;unfold eR at h9;unfold eD at h10;unfold eO at h11;simp only[fI];refine⟨rfl,?_⟩;simp only[aT];refine⟨?_,trivial⟩;show false=B.den G (fF ([x0,x1,x2,x3,x4,x5,x6,x7,x8,x9,x10,x11]:List Int)) bU;refine Eq.symm ?_;unfold bU;rw[Bool.eq_false_iff];intro h;simp only[nn,List.cons_append,List.nil_append,aS,ne_eq]at *;(try simp only[Bool.and_eq_true,decide_eq_true_eq]at *);omega
 refine aL fH (fun h12=>?_) (fun h12=>?_)
 ·skip
  refine aH aG2 ?_
  unfold cI at h0;unfold cM at h1;unfold cS at h2;unfold cY at h3;unfold dE at h4;unfold dM at h5;unfold dQ at h6;unfold dY at h7;unfold eF at h8;unfold eR at h9;unfold eD at h10;unfold eO at h11;unfold fH at h12;simp only[fI];refine⟨rfl,?_⟩;simp only[aT];refine⟨?_,trivial⟩;show false=B.den G (fF ([x0,x1,x2,x3,x4,x5,x6,x7,x8,x9,x10,x11]:List Int)) bU;refine Eq.symm ?_;unfold bU;rw[Bool.eq_false_iff];intro h;simp only[nn,List.cons_append,List.nil_append,aS,ne_eq]at *;(try simp only[Bool.and_eq_true,decide_eq_true_eq]at *);omega
 refine aL fV (fun h13=>?_) (fun h13=>?_)
 ·skip
  refine aH aHy ?_
  unfold cI at h0;unfold cM at h1;unfold cS at h2;unfold cY at h3;unfold dE at h4;unfold dM at h5;unfold dQ at h6;unfold dY at h7;unfold eF at h8;unfold eR at h9;unfold eD at h10;unfold eO at h11;unfold fH at h12;unfold fV at h13;simp only[fI];refine⟨rfl,?_⟩;simp only[aT];refine⟨?_,trivial⟩;show false=B.den G (fF ([x0,x1,x2,x3,x4,x5,x6,x7,x8,x9,x10,x11]:List Int)) bU;refine Eq.symm ?_;unfold bU;rw[Bool.eq_false_iff];intro h;simp only[nn,List.cons_append,List.nil_append,aS,ne_eq]at *;(try simp only[Bool.and_eq_true,decide_eq_true_eq]at *);omega
 refine aL gQ (fun h14=>?_) (fun h14=>?_)
 ·skip
  refine aH aG3 ?_
  unfold cI at h0;unfold cM at h1;unfold cS at h2;unfold cY at h3;unfold dE at h4;unfold dM at h5;unfold dQ at h6;unfold dY at h7;unfold eF at h8;unfold eR at h9;unfold eD at h10;unfold eO at h11;unfold fH at h12;unfold fV at h13;unfold gQ at h14;simp only[fI];refine⟨rfl,?_⟩;simp only[aT];refine⟨?_,trivial⟩;show false=B.den G (fF ([x0,x1,x2,x3,x4,x5,x6,x7,x8,x9,x10,x11]:List Int)) bU;refine Eq.symm ?_;unfold bU;rw[Bool.eq_false_iff];intro h;simp only[nn,List.cons_append,List.nil_append,aS,ne_eq]at *;(try simp only[Bool.and_eq_true,decide_eq_true_eq]at *);omega
 refine aL iI (fun h15=>?_) (fun h15=>?_)
 ·skip
  refine aH aG9 ?_
  unfold cI at h0;unfold cM at h1;unfold cS at h2;unfold cY at h3;unfold dE at h4;unfold dM at h5;unfold dQ at h6;unfold dY at h7;unfold eF at h8;unfold eR at h9;unfold eD at h10;unfold eO at h11;unfold fH at h12;unfold fV at h13;unfold gQ at h14;unfold iI at h15;simp only[fI];refine⟨rfl,?_⟩;simp only[aT];refine⟨?_,trivial⟩;show false=B.den G (fF ([x0,x1,x2,x3,x4,x5,x6,x7,x8,x9,x10,x11]:List Int)) bU;refine Eq.symm ?_;unfold bU;rw[Bool.eq_false_iff];intro h;simp only[nn,List.cons_append,List.nil_append,aS,ne_eq]at *;(try simp only[Bool.and_eq_true,decide_eq_true_eq]at *);omega
 refine aL jA (fun h16=>?_) (fun h16=>?_)
 ·skip
  refine aH aGK ?_
  unfold cI at h0;unfold cM at h1;unfold cS at h2;unfold cY at h3;unfold dE at h4;unfold dM at h5;unfold dQ at h6;unfold dY at h7;unfold eF at h8;unfold eR at h9;unfold eD at h10;unfold eO at h11;unfold fH at h12;unfold fV at h13;unfold gQ at h14;unfold iI at h15;unfold jA at h16;simp only[fI];refine⟨rfl,?_⟩;simp only[aT];refine⟨?_,trivial⟩;show false=B.den G (fF ([x0,x1,x2,x3,x4,x5,x6,x7,x8,x9,x10,x11]:List Int)) bU;refine Eq.symm ?_;unfold bU;rw[Bool.eq_false_iff];intro h;simp only[nn,List.cons_append,List.nil_append,aS,ne_eq]at *;(try simp only[Bool.and_eq_true,decide_eq_true_eq]at *);omega
 refine aL kF (fun h17=>?_) (fun h17=>?_)
 ·skip
  refine aH aG6 ?_
  unfold cI at h0;unfold cM at h1;unfold cS at h2;unfold cY at h3;unfold dE at h4;unfold dM at h5;unfold dQ at h6;unfold dY at h7;unfold eF at h8;unfold eR at h9;unfold eD at h10;unfold eO at h11;unfold fH at h12;unfold fV at h13;unfold gQ at h14;unfold iI at h15;unfold jA at h16;unfold kF at h17;simp only[fI];refine⟨rfl,?_⟩;simp only[aT];refine⟨?_,trivial⟩;show false=B.den G (fF ([x0,x1,x2,x3,x4,x5,x6,x7,x8,x9,x10,x11]:List Int)) bU;refine Eq.symm ?_;unfold bU;rw[Bool.eq_false_iff];intro h;simp only[nn,List.cons_append,List.nil_append,aS,ne_eq]at *;(try simp only[Bool.and_eq_true,decide_eq_true_eq]at *);omega
 refine aL lT (fun h18=>?_) (fun h18=>?_)
 ·skip
  refine aH aGo ?_
  unfold cI at h0;unfold cM at h1;unfold cS at h2;unfold cY at h3;unfold dE at h4;unfold dM at h5;unfold dQ at h6;unfold dY at h7;unfold eF at h8;unfold eR at h9;unfold eD at h10;unfold eO at h11;unfold fH at h12;unfold fV at h13;unfold gQ at h14;unfold iI at h15;unfold jA at h16;unfold kF at h17;unfold lT at h18;simp only[fI];refine⟨rfl,?_⟩;simp only[aT];refine⟨?_,trivial⟩;show false=B.den G (fF ([x0,x1,x2,x3,x4,x5,x6,x7,x8,x9,x10,x11]:List Int)) bU;refine Eq.symm ?_;unfold bU;rw[Bool.eq_false_iff];intro h;simp only[nn,List.cons_append,List.nil_append,aS,ne_eq]at *;(try simp only[Bool.and_eq_true,decide_eq_true_eq]at *);omega
 refine aH aHl ?_
 unfold cI at h0;unfold cM at h1;unfold cS at h2;unfold cY at h3;unfold dE at h4;unfold dM at h5;unfold dQ at h6;unfold dY at h7;unfold eF at h8;unfold eR at h9;unfold eD at h10;unfold eO at h11;unfold fH at h12;unfold fV at h13;unfold gQ at h14;unfold iI at h15;unfold jA at h16;unfold kF at h17;unfold lT at h18;simp only[fI];refine⟨rfl,?_⟩;simp only[aT];refine⟨?_,trivial⟩;show true=B.den G (fF ([x0,x1,x2,x3,x4,x5,x6,x7,x8,x9,x10,x11]:List Int)) bU;refine Eq.symm ?_;unfold bU;simp only[nn,List.cons_append,List.nil_append,aS,ne_eq]at *;(try simp only[Bool.and_eq_true,decide_eq_true_eq]at *);omega
def yI:Ctx→List SV→aI→Res (SV × aI):=kH GB aBD 0 (.lit true) aEf
theorem aNu {X:Ctx} {ρ:Nat→Int} (hX:X.Ok ρ) (hG:X.G=G):nX Try.prog X ρ GB 36 yI:=by
 obtain⟨XG,XI,XV,XF⟩:=X
 simp only at hG
 subst hG
 refine jN hX ?_
 intro xs ls hw hl hp
 unfold aBD at hw
 obtain⟨x0,y0,e0,b0,h0⟩:=aF hw
 obtain⟨x1,y1,e1,b1,h1⟩:=aF h0
 obtain⟨x2,y2,e2,b2,h2⟩:=aF h1
 obtain⟨x3,y3,e3,b3,h3⟩:=aF h2
 obtain⟨x4,y4,e4,b4,h4⟩:=aF h3
 obtain⟨x5,y5,e5,b5,h5⟩:=aF h4
 obtain⟨x6,y6,e6,b6,h6⟩:=aF h5
 obtain⟨x7,y7,e7,b7,h7⟩:=aF h6
 obtain⟨x8,y8,e8,b8,h8⟩:=aF h7
 obtain⟨x9,y9,e9,b9,h9⟩:=aF h8
 obtain⟨x10,y10,e10,b10,h10⟩:=aF h9
 obtain⟨x11,y11,e11,b11,h11⟩:=aF h10
 have e12:=wL h11
 subst e12 e11 e10 e9 e8 e7 e6 e5 e4 e3 e2 e1 e0
 have hl':ls=[]:=List.length_eq_zero_iff.1 hl
 subst hl'
 rw[List.append_nil]
 exact aJr x0 x1 x2 x3 x4 x5 x6 x7 x8 x9 x10 x11 b0 b1 b2 b3 b4 b5 b6 b7 b8 b9 b10 b11
def aEW (g:Ctx→List SV→aI→Res (SV × aI)):Ctx→List SV→aI→Res (SV × aI):=fun X args σ=>
 (g X args σ).bind fun r=>match r.1 with
  | .bool b=>(Res.testW X b).bind fun t => .ok (.bool (.lit t),r.2)
  |_ => .ok r
theorem aHm {P:Program} {X:Ctx} {ρ:Nat→Int} {gb:dW} {f:FuncId} {g:Ctx→List SV→aI→Res (SV × aI)} (hX:X.Ok ρ) (hg:nX P X ρ gb f g):nX P X ρ gb f (aEW g):=by
 intro args σ s σ' e α w vals hW hv
 unfold aEW at e
 obtain⟨r,hr,e⟩:=Res.bind_ok e
 obtain⟨s0,σ0⟩:=r
 obtain⟨hk,hc⟩:=hg args σ s0 σ0 hr α w vals hW hv
 refine⟨hk,hc.mono ?_⟩
 rintro en w' ⟨v,α',rfl,rv,q⟩
 simp only at e
 split at e
 ·rename_i _ b
  obtain⟨t,ht,e⟩:=Res.bind_ok e
  have ht:=Res.testW_ok hX ht
  cases e
  refine⟨v,α',rfl,?_,q⟩
  simp only[SV.R,B.den]at rv ⊢
  rw[rv,ht]
 ·cases e;exact⟨v,α',rfl,rv,q⟩
def uO:Ctx→List SV→aI→Res (SV × aI):=aEW yI
theorem aJb {X:Ctx} {ρ:Nat→Int} (hX:X.Ok ρ) (hG:X.G=G):nX Try.prog X ρ GB 36 uO:=aHm hX (aNu hX hG)
def aA7:List (Int × Int):=[((-9223372036854775808),9223372036854775807),(0,18446744073709551615),((-9223372036854775808),9223372036854775807),(0,18446744073709551615),((-9223372036854775808),9223372036854775807),(0,18446744073709551615),((-9223372036854775808),9223372036854775807),(0,18446744073709551615),((-9223372036854775808),9223372036854775807),(0,4294967296),(0,4294967296),(0,4294967296),(0,4294967296)]
def rS:B:=(.and (.cmp .le (.lit (-1125899906842624)) (.op .add (.op .mul (.var 0) (.lit 18446744073709551616)) (.var 1))) (.and (.cmp .le (.op .add (.op .mul (.var 0) (.lit 18446744073709551616)) (.var 1)) (.lit 1125899906842624)) (.and (.cmp .le (.lit (-1125899906842624)) (.op .add (.op .mul (.var 2) (.lit 18446744073709551616)) (.var 3))) (.and (.cmp .le (.op .add (.op .mul (.var 2) (.lit 18446744073709551616)) (.var 3)) (.lit 1125899906842624)) (.and (.cmp .le (.lit (-1125899906842624)) (.op .add (.op .mul (.var 4) (.lit 18446744073709551616)) (.var 5))) (.and (.cmp .le (.op .add (.op .mul (.var 4) (.lit 18446744073709551616)) (.var 5)) (.lit 1125899906842624)) (.and (.cmp .le (.lit (-1125899906842624)) (.op .add (.op .mul (.var 6) (.lit 18446744073709551616)) (.var 7))) (.and (.cmp .le (.op .add (.op .mul (.var 6) (.lit 18446744073709551616)) (.var 7)) (.lit 1125899906842624)) (.and (.cmp .le (.lit 1) (.var 8)) (.and (.cmp .le (.var 8) (.lit 65535)) (.cmp .le (.lit 1) (.op .add (.op .add (.op .add (.var 9) (.var 10)) (.var 11)) (.var 12)))))))))))))
def aFj:FunS:=⟨[.slice 0 0 4 4,.slice 1 0 4 4,(.int .i64 (.var 8))],[some ([(.int .i64 (.var 0)),(.int .u64 (.var 1)),(.int .i64 (.var 2)),(.int .u64 (.var 3)),(.int .i64 (.var 4)),(.int .u64 (.var 5)),(.int .i64 (.var 6)),(.int .u64 (.var 7))],35),some ([(.int .i64 (.var 9)),(.int .i64 (.var 10)),(.int .i64 (.var 11)),(.int .i64 (.var 12))],2)],.lit true,(.int .i32 (.app 73 (.cons (.op .add (.op .mul (.var 0) (.lit 18446744073709551616)) (.var 1)) (.cons (.op .add (.op .mul (.var 2) (.lit 18446744073709551616)) (.var 3)) (.cons (.op .add (.op .mul (.var 4) (.lit 18446744073709551616)) (.var 5)) (.cons (.op .add (.op .mul (.var 6) (.lit 18446744073709551616)) (.var 7)) (.cons (.var 8) (.cons (.var 9) (.cons (.var 10) (.cons (.var 11) (.cons (.var 12) .nil))))))))))),[some ([(.int .i64 (.var 0)),(.int .u64 (.var 1)),(.int .i64 (.var 2)),(.int .u64 (.var 3)),(.int .i64 (.var 4)),(.int .u64 (.var 5)),(.int .i64 (.var 6)),(.int .u64 (.var 7))],35),some ([(.int .i64 (.var 9)),(.int .i64 (.var 10)),(.int .i64 (.var 11)),(.int .i64 (.var 12))],2)],(.int .i32 (.app 73 (.cons (.op .add (.op .mul (.var 0) (.lit 18446744073709551616)) (.var 1)) (.cons (.op .add (.op .mul (.var 2) (.lit 18446744073709551616)) (.var 3)) (.cons (.op .add (.op .mul (.var 4) (.lit 18446744073709551616)) (.var 5)) (.cons (.op .add (.op .mul (.var 6) (.lit 18446744073709551616)) (.var 7)) (.cons (.var 8) (.cons (.var 9) (.cons (.var 10) (.cons (.var 11) (.cons (.var 12) .nil))))))))))),[some ([(.int .i64 (.var 0)),(.int .u64 (.var 1)),(.int .i64 (.var 2)),(.int .u64 (.var 3)),(.int .i64 (.var 4)),(.int .u64 (.var 5)),(.int .i64 (.var 6)),(.int .u64 (.var 7))],35),some ([(.int .i64 (.var 9)),(.int .i64 (.var 10)),(.int .i64 (.var 11)),(.int .i64 (.var 12))],2)]⟩
def aCY (P:Program) (fs:List B):Res SV:=cV G GI aA7 fs fun X=>nG P X GB aAh kC 4000 120 aFj
end Go.Proofs.Ytoiecphddchknaa
set_option maxRecDepth 100000
namespace Go.Proofs.Ytoiecphddchknaa
open Go Go.RowKit Sx Wi
def aNz (P:Program) (fs:List B):Res SV:=aCY P fs
def aI2:List B:=[]
def lX:B:=(.and (.cmp .le (.lit (-1125899906842624)) (.op .add (.op .mul (.var 0) (.lit 18446744073709551616)) (.var 1))) (.and (.cmp .le (.op .add (.op .mul (.var 0) (.lit 18446744073709551616)) (.var 1)) (.lit 1125899906842624)) (.and (.cmp .le (.lit (-1125899906842624)) (.op .add (.op .mul (.var 2) (.lit 18446744073709551616)) (.var 3))) (.and (.cmp .le (.op .add (.op .mul (.var 2) (.lit 18446744073709551616)) (.var 3)) (.lit 1125899906842624)) (.and (.cmp .le (.lit (-1125899906842624)) (.op .add (.op .mul (.var 4) (.lit 18446744073709551616)) (.var 5))) (.and (.cmp .le (.op .add (.op .mul (.var 4) (.lit 18446744073709551616)) (.var 5)) (.lit 1125899906842624)) (.and (.cmp .le (.lit (-1125899906842624)) (.op .add (.op .mul (.var 6) (.lit 18446744073709551616)) (.var 7))) (.and (.cmp .le (.op .add (.op .mul (.var 6) (.lit 18446744073709551616)) (.var 7)) (.lit 1125899906842624)) (.and (.cmp .le (.lit 1) (.var 8)) (.and (.cmp .le (.var 8) (.lit 65535)) (.cmp .le (.lit 1) (.op .add (.op .add (.op .add (.var 9) (.var 10)) (.var 11)) (.var 12)))))))))))))
def aJ1:List B:=aM lX++aI2
def oK:B:=(.cmp .le (.lit (-9223372036854775808)) (.app 71 (.cons (.app 71 (.cons (.op .add (.op .mul (.op .add (.op .add (.op .add (.op .add (.lit 0) (.op .mul (.op .add (.op .mul (.var 0) (.lit 18446744073709551616)) (.var 1)) (.var 9))) (.op .mul (.op .add (.op .mul (.var 2) (.lit 18446744073709551616)) (.var 3)) (.var 10))) (.op .mul (.op .add (.op .mul (.var 4) (.lit 18446744073709551616)) (.var 5)) (.var 11))) (.op .mul (.op .add (.op .mul (.var 6) (.lit 18446744073709551616)) (.var 7)) (.var 12))) (.lit 2)) (.op .mul (.op .add (.op .add (.op .add (.var 9) (.var 10)) (.var 11)) (.var 12)) (.var 8))) (.cons (.var 8) .nil))) (.cons (.op .mul (.lit 2) (.op .add (.op .add (.op .add (.var 9) (.var 10)) (.var 11)) (.var 12))) .nil))))
def aKx:List B:=aM oK++aJ1
def rC:B:=(.cmp .le (.app 71 (.cons (.app 71 (.cons (.op .add (.op .mul (.op .add (.op .add (.op .add (.op .add (.lit 0) (.op .mul (.op .add (.op .mul (.var 0) (.lit 18446744073709551616)) (.var 1)) (.var 9))) (.op .mul (.op .add (.op .mul (.var 2) (.lit 18446744073709551616)) (.var 3)) (.var 10))) (.op .mul (.op .add (.op .mul (.var 4) (.lit 18446744073709551616)) (.var 5)) (.var 11))) (.op .mul (.op .add (.op .mul (.var 6) (.lit 18446744073709551616)) (.var 7)) (.var 12))) (.lit 2)) (.op .mul (.op .add (.op .add (.op .add (.var 9) (.var 10)) (.var 11)) (.var 12)) (.var 8))) (.cons (.var 8) .nil))) (.cons (.op .mul (.lit 2) (.op .add (.op .add (.op .add (.var 9) (.var 10)) (.var 11)) (.var 12))) .nil))) (.lit 9223372036854775807))
def aI8:List B:=aM rC++aKx
def aC8:SV:=(.tuple [(.agg [(.int .i64 (.op .max (.lit (-2147483648)) (.op .min (.lit 2147483647) (.app 71 (.cons (.app 71 (.cons (.op .add (.op .mul (.op .add (.op .add (.op .add (.op .add (.lit 0) (.op .mul (.op .add (.op .mul (.var 0) (.lit 18446744073709551616)) (.var 1)) (.var 9))) (.op .mul (.op .add (.op .mul (.var 2) (.lit 18446744073709551616)) (.var 3)) (.var 10))) (.op .mul (.op .add (.op .mul (.var 4) (.lit 18446744073709551616)) (.var 5)) (.var 11))) (.op .mul (.op .add (.op .mul (.var 6) (.lit 18446744073709551616)) (.var 7)) (.var 12))) (.lit 2)) (.op .mul (.op .add (.op .add (.op .add (.var 9) (.var 10)) (.var 11)) (.var 12)) (.var 8))) (.cons (.var 8) .nil))) (.cons (.op .mul (.lit 2) (.op .add (.op .add (.op .add (.var 9) (.var 10)) (.var 11)) (.var 12))) .nil)))))),(.int .i64 (.app 73 (.cons (.op .add (.op .mul (.var 0) (.lit 18446744073709551616)) (.var 1)) (.cons (.op .add (.op .mul (.var 2) (.lit 18446744073709551616)) (.var 3)) (.cons (.op .add (.op .mul (.var 4) (.lit 18446744073709551616)) (.var 5)) (.cons (.op .add (.op .mul (.var 6) (.lit 18446744073709551616)) (.var 7)) (.cons (.var 8) (.cons (.var 9) (.cons (.var 10) (.cons (.var 11) (.cons (.var 12) .nil)))))))))))]),(.bool (.lit true))])
theorem aK7:aNz Try.prog aI8 = .ok aC8:=by kernel_rfl
end Go.Proofs.Ytoiecphddchknaa
namespace Go.Proofs.Ytoiecphddchknaa
open Go Go.RowKit Sx Wi
set_option maxHeartbeats 1000000 in
set_option maxRecDepth 100000 in
theorem aLo (x0 x1 x2 x3 x4 x5 x6 x7 x8 x9 x10 x11 x12:Int) (b0:(-9223372036854775808)≤x0∧x0≤9223372036854775807) (b1:0≤x1∧x1≤18446744073709551615) (b2:(-9223372036854775808)≤x2∧x2≤9223372036854775807) (b3:0≤x3∧x3≤18446744073709551615) (b4:(-9223372036854775808)≤x4∧x4≤9223372036854775807) (b5:0≤x5∧x5≤18446744073709551615) (b6:(-9223372036854775808)≤x6∧x6≤9223372036854775807) (b7:0≤x7∧x7≤18446744073709551615) (b8:(-9223372036854775808)≤x8∧x8≤9223372036854775807) (b9:0≤x9∧x9≤4294967296) (b10:0≤x10∧x10≤4294967296) (b11:0≤x11∧x11≤4294967296) (b12:0≤x12∧x12≤4294967296) (hp:rS.den G (fF ([x0,x1,x2,x3,x4,x5,x6,x7,x8,x9,x10,x11,x12]:List Int))=true):mE Try.prog G GB 120 aFj (fF ([x0,x1,x2,x3,x4,x5,x6,x7,x8,x9,x10,x11,x12]:List Int)):=by
 have hq:=hp
 unfold rS at hq
 simp only[nn,List.cons_append,List.nil_append,Bool.or_eq_true,aS,ne_eq]at hq
 obtain⟨p0,p1,p2,p3,p4,p5,p6,p7,p8,p9,hf⟩:=hq
 have hk:=aDD (n0:=(x0*18446744073709551616+x1)) (n1:=(x2*18446744073709551616+x3)) (n2:=(x4*18446744073709551616+x5)) (n3:=(x6*18446744073709551616+x7)) (d:=x8) ⟨p0,p1⟩ ⟨p2,p3⟩ ⟨p4,p5⟩ ⟨p6,p7⟩ ⟨p8,p9⟩ b9.1 b10.1 b11.1 b12.1 hf
 clear p0 p1 p2 p3 p4 p5 p6 p7 p8 p9 hf
 refine jC (lp:=kC) (run:=aCY Try.prog) (fun _=>rfl) fits (dO ⟨b0,b1,b2,b3,b4,b5,b6,b7,b8,b9,b10,b11,b12,trivial⟩) iM (fun X hX hG=>nK hX hG) (fun X hX hG fn c hf hc=>iB) rfl ?_
 refine aL lX (fun h0=>?_) (fun h0=>?_)
 rotate_left
 ·skip
  refine bE ?_
  unfold lX at h0;exact absurd hp (by unfold rS;rw[h0];decide)
 refine aL oK (fun h1=>?_) (fun h1=>?_)
 rotate_left
 ·skip
  refine bE ?_
  unfold lX at h0;unfold oK at h1;clear hp h0;simp only[nn,List.cons_append,List.nil_append,Bool.or_eq_true,aS,ne_eq]at h1;first|with_reducible exact absurd hk.1 h1|with_reducible exact absurd hk.2 h1
 refine aL rC (fun h2=>?_) (fun h2=>?_)
 ·skip
  refine aH aK7 ?_
  unfold lX at h0;unfold oK at h1;unfold rC at h2;unfold aC8;clear hp h0 hk;simp only[fI];refine⟨rfl,?_⟩;simp only[aT];simp only[nn,List.cons_append,List.nil_append,Bool.or_eq_true,aS,ne_eq];(repeat' refine And.intro ?_ ?_)<;>first|with_reducible exact aJQ|with_reducible trivial
 refine bE ?_
 unfold lX at h0;unfold oK at h1;unfold rC at h2;clear hp h0;simp only[nn,List.cons_append,List.nil_append,Bool.or_eq_true,aS,ne_eq]at h1 h2;first|with_reducible exact absurd hk.1 h2|with_reducible exact absurd hk.2 h2
def wP:Ctx→List SV→aI→Res (SV × aI):=kH GB aA7 0 rS aFj
theorem aNt {X:Ctx} {ρ:Nat→Int} (hX:X.Ok ρ) (hG:X.G=G):nX Try.prog X ρ GB 120 wP:=by
 obtain⟨XG,XI,XV,XF⟩:=X
 simp only at hG
 subst hG
 refine jN hX ?_
 intro xs ls hw hl hp
 unfold aA7 at hw
 obtain⟨x0,y0,e0,b0,h0⟩:=aF hw
 obtain⟨x1,y1,e1,b1,h1⟩:=aF h0
 obtain⟨x2,y2,e2,b2,h2⟩:=aF h1
 obtain⟨x3,y3,e3,b3,h3⟩:=aF h2
 obtain⟨x4,y4,e4,b4,h4⟩:=aF h3
 obtain⟨x5,y5,e5,b5,h5⟩:=aF h4
 obtain⟨x6,y6,e6,b6,h6⟩:=aF h5
 obtain⟨x7,y7,e7,b7,h7⟩:=aF h6
 obtain⟨x8,y8,e8,b8,h8⟩:=aF h7
 obtain⟨x9,y9,e9,b9,h9⟩:=aF h8
 obtain⟨x10,y10,e10,b10,h10⟩:=aF h9
 obtain⟨x11,y11,e11,b11,h11⟩:=aF h10
 obtain⟨x12,y12,e12,b12,h12⟩:=aF h11
 have e13:=wL h12
 subst e13 e12 e11 e10 e9 e8 e7 e6 e5 e4 e3 e2 e1 e0
 have hl':ls=[]:=List.length_eq_zero_iff.1 hl
 subst hl'
 rw[List.append_nil]
 exact aLo x0 x1 x2 x3 x4 x5 x6 x7 x8 x9 x10 x11 x12 b0 b1 b2 b3 b4 b5 b6 b7 b8 b9 b10 b11 b12 (by rw[List.append_nil]at hp;exact hp)
def aNG:aX:=mD 120 wP aAh
theorem aJN {X:Ctx} {ρ:Nat→Int} (hX:X.Ok ρ) (hG:X.G=G):gF Try.prog X ρ GB aNG:=kN (aNt hX hG) (nK hX hG)
end Go.Proofs.Ytoiecphddchknaa
set_option maxRecDepth 100000
namespace Go.Proofs.Ytoiecphddchknaa
open Go Go.RowKit Sx Wi
def aKl (P:Program) (fs:List B):Res SV:=cV G GI [((-2147483648),2147483647),((-2147483648),2147483647),((-2147483648),2147483647),((-1801615772808642560),1801615772808642560),((-1801615772808642560),1801615772808642560),((-1801615772808642560),1801615772808642560)] fs fun X=>nD P X GB aAh 4000 124 [(.agg [(.int .i32 (.var 0)),(.int .i32 (.var 1)),(.int .i32 (.var 2))]),(.agg [(.int .i64 (.var 3)),(.int .i64 (.var 4)),(.int .i64 (.var 5))])]
def aKU:List B:=[]
def jU:B:=(.cmp .lt (.op .add (.op .add (.var 3) (.var 4)) (.var 5)) (.lit 0))
def aPe:List B:=aM jU++aKU
def sD:B:=(.cmp .le (.op .mul (.lit 2) (.op .sub (.lit 0) (.op .add (.op .add (.var 3) (.var 4)) (.var 5)))) (.lit 9223372036854775807))
def aPi:List B:=aM sD++aPe
def xW:B:=(.cmp .le (.lit (-9223372036854775808)) (.app 71 (.cons (.app 71 (.cons (.op .add (.op .mul (.op .sub (.lit 0) (.op .add (.op .add (.op .add (.lit 0) (.op .mul (.var 0) (.var 3))) (.op .mul (.var 1) (.var 4))) (.op .mul (.var 2) (.var 5)))) (.lit 2)) (.op .mul (.op .sub (.lit 0) (.op .add (.op .add (.var 3) (.var 4)) (.var 5))) (.lit 1))) (.cons (.lit 1) .nil))) (.cons (.op .mul (.lit 2) (.op .sub (.lit 0) (.op .add (.op .add (.var 3) (.var 4)) (.var 5)))) .nil))))
def aPo:List B:=aM xW++aPi
def aA0:B:=(.cmp .le (.app 71 (.cons (.app 71 (.cons (.op .add (.op .mul (.op .sub (.lit 0) (.op .add (.op .add (.op .add (.lit 0) (.op .mul (.var 0) (.var 3))) (.op .mul (.var 1) (.var 4))) (.op .mul (.var 2) (.var 5)))) (.lit 2)) (.op .mul (.op .sub (.lit 0) (.op .add (.op .add (.var 3) (.var 4)) (.var 5))) (.lit 1))) (.cons (.lit 1) .nil))) (.cons (.op .mul (.lit 2) (.op .sub (.lit 0) (.op .add (.op .add (.var 3) (.var 4)) (.var 5)))) .nil))) (.lit 9223372036854775807))
def aO3:List B:=aM aA0++aPo
def aKu:SV:=(.int .i64 (.op .max (.lit (-2147483648)) (.op .min (.lit 2147483647) (.app 71 (.cons (.app 71 (.cons (.op .add (.op .mul (.op .sub (.lit 0) (.op .add (.op .add (.op .add (.lit 0) (.op .mul (.var 0) (.var 3))) (.op .mul (.var 1) (.var 4))) (.op .mul (.var 2) (.var 5)))) (.lit 2)) (.op .mul (.op .sub (.lit 0) (.op .add (.op .add (.var 3) (.var 4)) (.var 5))) (.lit 1))) (.cons (.lit 1) .nil))) (.cons (.op .mul (.lit 2) (.op .sub (.lit 0) (.op .add (.op .add (.var 3) (.var 4)) (.var 5)))) .nil))))))
def aPa:List B:=aM (B.neg jU)++aKU
def pP:B:=(.cmp .le (.op .mul (.lit 2) (.op .add (.op .add (.var 3) (.var 4)) (.var 5))) (.lit 9223372036854775807))
def aPu:List B:=aM pP++aPa
def sS:B:=(.cmp .le (.lit 1) (.op .mul (.lit 2) (.op .add (.op .add (.var 3) (.var 4)) (.var 5))))
def aMz:List B:=aM sS++aPu
def vR:B:=(.cmp .le (.lit (-9223372036854775808)) (.app 71 (.cons (.app 71 (.cons (.op .add (.op .mul (.op .add (.op .add (.op .add (.lit 0) (.op .mul (.var 0) (.var 3))) (.op .mul (.var 1) (.var 4))) (.op .mul (.var 2) (.var 5))) (.lit 2)) (.op .mul (.op .add (.op .add (.var 3) (.var 4)) (.var 5)) (.lit 1))) (.cons (.lit 1) .nil))) (.cons (.op .mul (.lit 2) (.op .add (.op .add (.var 3) (.var 4)) (.var 5))) .nil))))
def aNg:List B:=aM vR++aMz
def aBn:B:=(.cmp .le (.app 71 (.cons (.app 71 (.cons (.op .add (.op .mul (.op .add (.op .add (.op .add (.lit 0) (.op .mul (.var 0) (.var 3))) (.op .mul (.var 1) (.var 4))) (.op .mul (.var 2) (.var 5))) (.lit 2)) (.op .mul (.op .add (.op .add (.var 3) (.var 4)) (.var 5)) (.lit 1))) (.cons (.lit 1) .nil))) (.cons (.op .mul (.lit 2) (.op .add (.op .add (.var 3) (.var 4)) (.var 5))) .nil))) (.lit 9223372036854775807))
def aMf:List B:=aM aBn++aNg
def aJ5:SV:=(.int .i64 (.op .max (.lit (-2147483648)) (.op .min (.lit 2147483647) (.app 71 (.cons (.app 71 (.cons (.op .add (.op .mul (.op .add (.op .add (.op .add (.lit 0) (.op .mul (.var 0) (.var 3))) (.op .mul (.var 1) (.var 4))) (.op .mul (.var 2) (.var 5))) (.lit 2)) (.op .mul (.op .add (.op .add (.var 3) (.var 4)) (.var 5)) (.lit 1))) (.cons (.lit 1) .nil))) (.cons (.op .mul (.lit 2) (.op .add (.op .add (.var 3) (.var 4)) (.var 5))) .nil))))))
theorem aOx:aKl Try.prog aO3 = .ok aKu:=by kernel_rfl
theorem aMn:aKl Try.prog aMf = .ok aJ5:=by kernel_rfl
end Go.Proofs.Ytoiecphddchknaa
