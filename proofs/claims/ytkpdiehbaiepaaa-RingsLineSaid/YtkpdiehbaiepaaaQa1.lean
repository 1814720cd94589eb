/- What is proved: the run of a function over its ways,and what is known on each. No condition. -/
import Derived.Test.YtkpdiehbaiepaaaQg6
import Derived.Test.YtkpdiehbaiepaaaQg3
import Derived.Test.YtkpdiehbaiepaaaProg
import Derived.Test.YtkpdiehbaiepaaaQNn
import Derived.Test.YtkpdiehbaiepaaaQg4
set_option linter.unusedSimpArgs false
set_option linter.unusedVariables false
set_option maxRecDepth 100000
namespace Go.Proofs.Ytkpdiehbaiepaaa
open Go Go.RowKit Sx Wi
def aL8 (P:Program) (fs:List B):Res SV:=bK G GI [] fs (fun X=>gU P X GB aPT 3000 14 [])
def aO4:List B:=[]
theorem aQz:aL8 Try.prog aO4 = .ok (.bool (.cmp .eq (.lit 1) (.lit 1))):=by kernel_rfl
set_option maxRecDepth 100000
open Go Go.RowKit Sx Wi
def hC (P:Program) (fs:List B):Res SV:=bK G GI [zzI,zzI,zzI,zzI,zzI,zzI,zzI,zzI,zzI,zzI] fs (fun X=>gU P X GB aPT 4000 95 [(.agg [(.int .i64 (.var 0)),(.int .i64 (.var 1)),(.int .i64 (.var 2)),(.int .i64 (.var 3)),(.int .i64 (.var 4)),(.int .i64 (.var 5)),(.int .i64 (.var 6)),(.int .i64 (.var 7))]),(.int .i64 (.var 8)),(.int .i64 (.var 9))])
def aLq:List B:=[]
def aLV:B:=(.cmp .le (.lit 0) (.var 9))
def aKm:List B:=aH aLV++aLq
def aLx:B:=(.cmp .le (.var 9) (.lit 6))
def aLT:List B:=aH aLx++aKm
def aJ7:B:=(.cmp .le (.lit 0) (.var 8))
def aMt:List B:=aH aJ7++aLT
def aLy:B:=(.cmp .lt (.op .shl (.lit 1) (.var 9)) (.var 8))
def aZE:List B:=aH aLy++aMt
def aLj:List B:=aH (B.neg aLy)++aMt
def aKJ:B:=(.cmp .lt (.lit 1099511627776) (.op .max (.op .max (.op .max (.var 0) (.wrap .i64 (.op .sub (.lit 0) (.var 0)))) (.var 1)) (.wrap .i64 (.op .sub (.lit 0) (.var 1)))))
def aZd:List B:=aH aKJ++aLj
def aLW:List B:=aH (B.neg aKJ)++aLj
def aKf:B:=(.cmp .lt (.op .min (.var 0) (.var 1)) (.lit (-1099511627776)))
def aV8:List B:=aH aKf++aLW
def aK6:List B:=aH (B.neg aKf)++aLW
def aKK:B:=(.cmp .lt (.lit 1099511627776) (.op .max (.op .max (.op .max (.var 2) (.wrap .i64 (.op .sub (.lit 0) (.var 2)))) (.var 3)) (.wrap .i64 (.op .sub (.lit 0) (.var 3)))))
def aVj:List B:=aH aKK++aK6
def aGp:List B:=aH (B.neg aKK)++aK6
def aHQ:B:=(.cmp .lt (.op .min (.var 2) (.var 3)) (.lit (-1099511627776)))
def aPB:List B:=aH aHQ++aGp
def aFH:List B:=aH (B.neg aHQ)++aGp
def aDN:B:=(.cmp .lt (.lit 1099511627776) (.op .max (.op .max (.op .max (.var 4) (.wrap .i64 (.op .sub (.lit 0) (.var 4)))) (.var 5)) (.wrap .i64 (.op .sub (.lit 0) (.var 5)))))
def aOE:List B:=aH aDN++aFH
def aG1:List B:=aH (B.neg aDN)++aFH
def aIi:B:=(.cmp .lt (.op .min (.var 4) (.var 5)) (.lit (-1099511627776)))
def aO8:List B:=aH aIi++aG1
def aH8:List B:=aH (B.neg aIi)++aG1
def aGF:B:=(.cmp .lt (.lit 1099511627776) (.op .max (.op .max (.op .max (.var 6) (.wrap .i64 (.op .sub (.lit 0) (.var 6)))) (.var 7)) (.wrap .i64 (.op .sub (.lit 0) (.var 7)))))
def aPD:List B:=aH aGF++aH8
def aEd:List B:=aH (B.neg aGF)++aH8
def aGq:B:=(.cmp .lt (.op .min (.var 6) (.var 7)) (.lit (-1099511627776)))
def aQx:List B:=aH aGq++aEd
def aVu:List B:=aH (B.neg aGq)++aEd
def aUD:List B:=aH (B.neg aJ7)++aLT
def aSK:List B:=aH (B.neg aLx)++aKm
def aVp:List B:=aH (B.neg aLV)++aLq
theorem aXd:hC Try.prog aZE = .ok (.tuple [(.agg [(.int .i64 (.lit 0)),(.int .i64 (.lit 0))]),(.int .i64 (.lit 1))]):=by kernel_rfl
theorem aWM:hC Try.prog aZd = .ok (.tuple [(.agg [(.int .i64 (.lit 0)),(.int .i64 (.lit 0))]),(.int .i64 (.lit 1))]):=by kernel_rfl
theorem aZD:hC Try.prog aV8 = .ok (.tuple [(.agg [(.int .i64 (.lit 0)),(.int .i64 (.lit 0))]),(.int .i64 (.lit 1))]):=by kernel_rfl
theorem aQ2:hC Try.prog aVj = .ok (.tuple [(.agg [(.int .i64 (.lit 0)),(.int .i64 (.lit 0))]),(.int .i64 (.lit 1))]):=by kernel_rfl
theorem aOo:hC Try.prog aPB = .ok (.tuple [(.agg [(.int .i64 (.lit 0)),(.int .i64 (.lit 0))]),(.int .i64 (.lit 1))]):=by kernel_rfl
theorem aTk:hC Try.prog aOE = .ok (.tuple [(.agg [(.int .i64 (.lit 0)),(.int .i64 (.lit 0))]),(.int .i64 (.lit 1))]):=by kernel_rfl
theorem aRs:hC Try.prog aO8 = .ok (.tuple [(.agg [(.int .i64 (.lit 0)),(.int .i64 (.lit 0))]),(.int .i64 (.lit 1))]):=by kernel_rfl
theorem aTt:hC Try.prog aPD = .ok (.tuple [(.agg [(.int .i64 (.lit 0)),(.int .i64 (.lit 0))]),(.int .i64 (.lit 1))]):=by kernel_rfl
theorem aQ0:hC Try.prog aQx = .ok (.tuple [(.agg [(.int .i64 (.lit 0)),(.int .i64 (.lit 0))]),(.int .i64 (.lit 1))]):=by kernel_rfl
theorem aPx:hC Try.prog aVu = .ok (.tuple [(.agg [(.int .i64 (.app 2 (.cons (.op .add (.op .add (.op .add (.op .add (.lit 0) (.op .mul (.var 0) (.op .mul (.op .mul (.op .sub (.op .shl (.lit 1) (.var 9)) (.var 8)) (.op .sub (.op .shl (.lit 1) (.var 9)) (.var 8))) (.op .sub (.op .shl (.lit 1) (.var 9)) (.var 8))))) (.op .mul (.var 2) (.op .mul (.op .mul (.op .mul (.lit 3) (.op .sub (.op .shl (.lit 1) (.var 9)) (.var 8))) (.op .sub (.op .shl (.lit 1) (.var 9)) (.var 8))) (.var 8)))) (.op .mul (.var 4) (.op .mul (.op .mul (.op .mul (.lit 3) (.op .sub (.op .shl (.lit 1) (.var 9)) (.var 8))) (.var 8)) (.var 8)))) (.op .mul (.var 6) (.op .mul (.op .mul (.var 8) (.var 8)) (.var 8)))) (.cons (.op .shl (.lit 256) (.op .mul (.lit 3) (.var 9))) .nil)))),(.int .i64 (.app 2 (.cons (.op .add (.op .add (.op .add (.op .add (.lit 0) (.op .mul (.var 1) (.op .mul (.op .mul (.op .sub (.op .shl (.lit 1) (.var 9)) (.var 8)) (.op .sub (.op .shl (.lit 1) (.var 9)) (.var 8))) (.op .sub (.op .shl (.lit 1) (.var 9)) (.var 8))))) (.op .mul (.var 3) (.op .mul (.op .mul (.op .mul (.lit 3) (.op .sub (.op .shl (.lit 1) (.var 9)) (.var 8))) (.op .sub (.op .shl (.lit 1) (.var 9)) (.var 8))) (.var 8)))) (.op .mul (.var 5) (.op .mul (.op .mul (.op .mul (.lit 3) (.op .sub (.op .shl (.lit 1) (.var 9)) (.var 8))) (.var 8)) (.var 8)))) (.op .mul (.var 7) (.op .mul (.op .mul (.var 8) (.var 8)) (.var 8)))) (.cons (.op .shl (.lit 256) (.op .mul (.lit 3) (.var 9))) .nil))))]),(.int .i64 (.lit 0))]):=by kernel_rfl
theorem aPL:hC Try.prog aUD = .ok (.tuple [(.agg [(.int .i64 (.lit 0)),(.int .i64 (.lit 0))]),(.int .i64 (.lit 1))]):=by kernel_rfl
theorem aT1:hC Try.prog aSK = .ok (.tuple [(.agg [(.int .i64 (.lit 0)),(.int .i64 (.lit 0))]),(.int .i64 (.lit 1))]):=by kernel_rfl
theorem aSi:hC Try.prog aVp = .ok (.tuple [(.agg [(.int .i64 (.lit 0)),(.int .i64 (.lit 0))]),(.int .i64 (.lit 1))]):=by kernel_rfl
open Go Go.RowKit Sx Wi
set_option maxRecDepth 100000 in
theorem aNs   (w:World) (hw:pR GB w):dM Try.prog 14∧Calls Try.prog 14 #[] w (fun e w'=>e = .returned (.bool true)∧Below w.heap.size w w'):=by
 refine dK (dC (ρ:=bT []) (run:=fun fs=>aL8 Try.prog fs) (fun _=>rfl) fits (bL trivial) dY (fun X hX hG=>yV hX hG) rfl rfl bV ?_ w hw)
 refine aE aQz ?_
 exact⟨rfl,rfl⟩
def nC:eU:=fun _ args=>
 match args with
 |[] => .ok (.bool (.lit true))
 |_ => .fail 201
theorem aOw {X:Ctx} {ρ:Nat→Int} (hX:X.Ok ρ) (hG:X.G=G):dD Try.prog X ρ GB 14 nC:=by
 obtain⟨XG,XI,XV,XF⟩:=X
 simp only at hG
 subst hG
 intro args s h α w vals hv hw
 unfold nC at h
 split at h
 ·cases h
  exact bC hv rfl rfl (aNs w hw)
 ·cases h
set_option maxHeartbeats 8000000 in
set_option maxRecDepth 100000 in
theorem aOv (x0 x1 x2 x3 x4 x5 x6 x7 x8 x9:Int) (b0:zzi x0) (b1:zzi x1) (b2:zzi x2) (b3:zzi x3) (b4:zzi x4) (b5:zzi x5) (b6:zzi x6) (b7:zzi x7) (b8:zzi x8) (b9:zzi x9) (w:World) (hw:pR GB w):dM Try.prog 95∧Calls Try.prog 95 #[(.agg #[.int .i64 x0,.int .i64 x1,.int .i64 x2,.int .i64 x3,.int .i64 x4,.int .i64 x5,.int .i64 x6,.int .i64 x7]),.int .i64 x8,.int .i64 x9] w (fun e w'=>e = .returned (if eQ x0 x1 x2 x3 x4 x5 x6 x7 x8 x9 then .tuple #[.agg #[.int .i64 (eX x0 x2 x4 x6 x8 x9),.int .i64 (eX x1 x3 x5 x7 x8 x9)],.int .i64 0] else .tuple #[.agg #[.int .i64 0,.int .i64 0],.int .i64 1])∧Below w.heap.size w w'):=by
 refine dK (dC (ρ:=bT [x0,x1,x2,x3,x4,x5,x6,x7,x8,x9]) (run:=fun fs=>hC Try.prog fs) (fun _=>rfl) fits (bL ⟨b0,b1,b2,b3,b4,b5,b6,b7,b8,b9,trivial⟩) dY (fun X hX hG=>yV hX hG) rfl rfl bV ?_ w hw)
 refine aG (.cmp .le (.lit 0) (.var 9)) (fun h0=>?_) (fun h0=>?_)
 rotate_left
 ·skip
  refine aE aSi ?_
  refine⟨rfl,?_⟩;simp only[nn,G,wG,cO,cN]at *;(try simp only[zzp]at *);(try simp only[Int.not_lt,Int.not_le,Int.max_le,Int.le_min]at *);rw[if_neg (by unfold eQ dI;(try simp only[IntKind.wrap_i64]at *);omega)]<;>rfl
 refine aG (.cmp .le (.var 9) (.lit 6)) (fun h1=>?_) (fun h1=>?_)
 rotate_left
 ·skip
  refine aE aT1 ?_
  refine⟨rfl,?_⟩;simp only[nn,G,wG,cO,cN]at *;(try simp only[zzp]at *);(try simp only[Int.not_lt,Int.not_le,Int.max_le,Int.le_min]at *);rw[if_neg (by unfold eQ dI;(try simp only[IntKind.wrap_i64]at *);omega)]<;>rfl
 refine aG (.cmp .le (.lit 0) (.var 8)) (fun h2=>?_) (fun h2=>?_)
 rotate_left
 ·skip
  refine aE aPL ?_
  refine⟨rfl,?_⟩;simp only[nn,G,wG,cO,cN]at *;(try simp only[zzp]at *);(try simp only[Int.not_lt,Int.not_le,Int.max_le,Int.le_min]at *);rw[if_neg (by unfold eQ dI;(try simp only[IntKind.wrap_i64]at *);omega)]<;>rfl
 refine aG (.cmp .lt (.op .shl (.lit 1) (.var 9)) (.var 8)) (fun h3=>?_) (fun h3=>?_)
 ·skip
  refine aE aXd ?_
  refine⟨rfl,?_⟩;simp only[nn,G,wG,cO,cN]at *;(try simp only[zzp]at *);(try simp only[Int.not_lt,Int.not_le,Int.max_le,Int.le_min]at *);rw[if_neg (by unfold eQ dI;(try simp only[IntKind.wrap_i64]at *);omega)]<;>rfl
 refine aG (.cmp .lt (.lit 1099511627776) (.op .max (.op .max (.op .max (.var 0) (.wrap .i64 (.op .sub (.lit 0) (.var 0)))) (.var 1)) (.wrap .i64 (.op .sub (.lit 0) (.var 1))))) (fun h4=>?_) (fun h4=>?_)
 ·skip
  refine aE aWM ?_
  refine⟨rfl,?_⟩;simp only[nn,G,wG,cO,cN]at *;(try simp only[zzp]at *);(try simp only[Int.not_lt,Int.not_le,Int.max_le,Int.le_min]at *);rw[if_neg (by unfold eQ dI;(try simp only[IntKind.wrap_i64]at *);omega)]<;>rfl
 refine aG (.cmp .lt (.op .min (.var 0) (.var 1)) (.lit (-1099511627776))) (fun h5=>?_) (fun h5=>?_)
 ·skip
  refine aE aZD ?_
  refine⟨rfl,?_⟩;simp only[nn,G,wG,cO,cN]at *;(try simp only[zzp]at *);(try simp only[Int.not_lt,Int.not_le,Int.max_le,Int.le_min]at *);rw[if_neg (by unfold eQ dI;(try simp only[IntKind.wrap_i64]at *);omega)]<;>rfl
 refine aG (.cmp .lt (.lit 1099511627776) (.op .max (.op .max (.op .max (.var 2) (.wrap .i64 (.op .sub (.lit 0) (.var 2)))) (.var 3)) (.wrap .i64 (.op .sub (.lit 0) (.var 3))))) (fun h6=>?_) (fun h6=>?_)
 ·skip
  refine aE aQ2 ?_
  refine⟨rfl,?_⟩;simp only[nn,G,wG,cO,cN]at *;(try simp only[zzp]at *);(try simp only[Int.not_lt,Int.not_le,Int.max_le,Int.le_min]at *);rw[if_neg (by unfold eQ dI;(try simp only[IntKind.wrap_i64]at *);omega)]<;>rfl
 refine aG (.cmp .lt (.op .min (.var 2) (.var 3)) (.lit (-1099511627776))) (fun h7=>?_) (fun h7=>?_)
 ·skip
  refine aE aOo ?_
  refine⟨rfl,?_⟩;simp only[nn,G,wG,cO,cN]at *;(try simp only[zzp]at *);(try simp only[Int.not_lt,Int.not_le,Int.max_le,Int.le_min]at *);rw[if_neg (by unfold eQ dI;(try simp only[IntKind.wrap_i64]at *);omega)]<;>rfl
 refine aG (.cmp .lt (.lit 1099511627776) (.op .max (.op .max (.op .max (.var 4) (.wrap .i64 (.op .sub (.lit 0) (.var 4)))) (.var 5)) (.wrap .i64 (.op .sub (.lit 0) (.var 5))))) (fun h8=>?_) (fun h8=>?_)
 ·skip
  refine aE aTk ?_
  refine⟨rfl,?_⟩;simp only[nn,G,wG,cO,cN]at *;(try simp only[zzp]at *);(try simp only[Int.not_lt,Int.not_le,Int.max_le,Int.le_min]at *);rw[if_neg (by unfold eQ dI;(try simp only[IntKind.wrap_i64]at *);omega)]<;>rfl
 refine aG (.cmp .lt (.op .min (.var 4) (.var 5)) (.lit (-1099511627776))) (fun h9=>?_) (fun h9=>?_)
 ·skip
  refine aE aRs ?_
  refine⟨rfl,?_⟩;simp only[nn,G,wG,cO,cN]at *;(try simp only[zzp]at *);(try simp only[Int.not_lt,Int.not_le,Int.max_le,Int.le_min]at *);rw[if_neg (by unfold eQ dI;(try simp only[IntKind.wrap_i64]at *);omega)]<;>rfl
 refine aG (.cmp .lt (.lit 1099511627776) (.op .max (.op .max (.op .max (.var 6) (.wrap .i64 (.op .sub (.lit 0) (.var 6)))) (.var 7)) (.wrap .i64 (.op .sub (.lit 0) (.var 7))))) (fun h10=>?_) (fun h10=>?_)
 ·skip
  refine aE aTt ?_
  refine⟨rfl,?_⟩;simp only[nn,G,wG,cO,cN]at *;(try simp only[zzp]at *);(try simp only[Int.not_lt,Int.not_le,Int.max_le,Int.le_min]at *);rw[if_neg (by unfold eQ dI;(try simp only[IntKind.wrap_i64]at *);omega)]<;>rfl
 refine aG (.cmp .lt (.op .min (.var 6) (.var 7)) (.lit (-1099511627776))) (fun h11=>?_) (fun h11=>?_)
 ·skip
  refine aE aQ0 ?_
  refine⟨rfl,?_⟩;simp only[nn,G,wG,cO,cN]at *;(try simp only[zzp]at *);(try simp only[Int.not_lt,Int.not_le,Int.max_le,Int.le_min]at *);rw[if_neg (by unfold eQ dI;(try simp only[IntKind.wrap_i64]at *);omega)]<;>rfl
 refine aE aPx ?_
 refine⟨rfl,?_⟩;simp only[nn,G,wG,cO,cN]at *;(try simp only[zzp]at *);(try simp only[Int.not_lt,Int.not_le,Int.max_le,Int.le_min]at *);have hk:eQ x0 x1 x2 x3 x4 x5 x6 x7 x8 x9:=(by unfold eQ dI;(repeat' refine And.intro ?_ ?_)<;>omega);rw[if_pos hk,←aMe (aS8 hk) rfl (bBI x9 (by omega) (by omega)),←aMe (aSl hk) rfl (bBI x9 (by omega) (by omega))]
theorem aE8 {ρ:Nat→Int} {a0 a1 a2 a3 a4 a5 a6 a7 a8 a9:E}:B.den G ρ ((.and (.cmp .le (.lit 0) a9) (.and (.cmp .le a9 (.lit 6)) (.and (.cmp .le (.lit 0) a8) (.and (.cmp .le a8 (.op .shl (.lit 1) a9)) (.and (.cmp .le (.lit (-1099511627776)) a0) (.and (.cmp .le a0 (.lit 1099511627776)) (.and (.cmp .le (.lit (-1099511627776)) a1) (.and (.cmp .le a1 (.lit 1099511627776)) (.and (.cmp .le (.lit (-1099511627776)) a2) (.and (.cmp .le a2 (.lit 1099511627776)) (.and (.cmp .le (.lit (-1099511627776)) a3) (.and (.cmp .le a3 (.lit 1099511627776)) (.and (.cmp .le (.lit (-1099511627776)) a4) (.and (.cmp .le a4 (.lit 1099511627776)) (.and (.cmp .le (.lit (-1099511627776)) a5) (.and (.cmp .le a5 (.lit 1099511627776)) (.and (.cmp .le (.lit (-1099511627776)) a6) (.and (.cmp .le a6 (.lit 1099511627776)) (.and (.cmp .le (.lit (-1099511627776)) a7) (.cmp .le a7 (.lit 1099511627776))))))))))))))))))))))=true↔eQ (E.den G ρ a0) (E.den G ρ a1) (E.den G ρ a2) (E.den G ρ a3) (E.den G ρ a4) (E.den G ρ a5) (E.den G ρ a6) (E.den G ρ a7) (E.den G ρ a8) (E.den G ρ a9):=by
 simp only[B.den,kJ,E.den,EL.den,aC6,Bool.and_eq_true,decide_eq_true_eq];simp only[zzp];unfold eQ dI;simp only[and_assoc]
def pI:eU:=fun X args=>
 match args with
 |[(.agg [.int .i64 a0,.int .i64 a1,.int .i64 a2,.int .i64 a3,.int .i64 a4,.int .i64 a5,.int .i64 a6,.int .i64 a7]),.int .i64 a8,.int .i64 a9]=>if a0.fits X .i64 && a1.fits X .i64 && a2.fits X .i64 && a3.fits X .i64 && a4.fits X .i64 && a5.fits X .i64 && a6.fits X .i64 && a7.fits X .i64 && a8.fits X .i64 && a9.fits X .i64 then (Res.testW X ((.and (.cmp .le (.lit 0) a9) (.and (.cmp .le a9 (.lit 6)) (.and (.cmp .le (.lit 0) a8) (.and (.cmp .le a8 (.op .shl (.lit 1) a9)) (.and (.cmp .le (.lit (-1099511627776)) a0) (.and (.cmp .le a0 (.lit 1099511627776)) (.and (.cmp .le (.lit (-1099511627776)) a1) (.and (.cmp .le a1 (.lit 1099511627776)) (.and (.cmp .le (.lit (-1099511627776)) a2) (.and (.cmp .le a2 (.lit 1099511627776)) (.and (.cmp .le (.lit (-1099511627776)) a3) (.and (.cmp .le a3 (.lit 1099511627776)) (.and (.cmp .le (.lit (-1099511627776)) a4) (.and (.cmp .le a4 (.lit 1099511627776)) (.and (.cmp .le (.lit (-1099511627776)) a5) (.and (.cmp .le a5 (.lit 1099511627776)) (.and (.cmp .le (.lit (-1099511627776)) a6) (.and (.cmp .le a6 (.lit 1099511627776)) (.and (.cmp .le (.lit (-1099511627776)) a7) (.cmp .le a7 (.lit 1099511627776))))))))))))))))))))))).bind fun t=>if t then .ok (.tuple [.agg [.int .i64 (.app 10 (.cons a0 (.cons a2 (.cons a4 (.cons a6 (.cons a8 (.cons a9 .nil))))))),.int .i64 (.app 10 (.cons a1 (.cons a3 (.cons a5 (.cons a7 (.cons a8 (.cons a9 .nil)))))))],.int .i64 (.lit 0)]) else .ok (.tuple [.agg [.int .i64 (.lit 0),.int .i64 (.lit 0)],.int .i64 (.lit 1)]) else .fail 200
 |_ => .fail 201
theorem aZi {X:Ctx} {ρ:Nat→Int} (hX:X.Ok ρ) (hG:X.G=G):dD Try.prog X ρ GB 95 pI:=by
 obtain⟨XG,XI,XV,XF⟩:=X
 simp only at hG
 subst hG
 intro args s h α w vals hv hw
 unfold pI at h
 split at h
 ·split at h
  ·rename_i hg
   try simp only[Bool.and_eq_true]at hg
   obtain⟨⟨⟨⟨⟨⟨⟨⟨⟨g0,g1⟩,g2⟩,g3⟩,g4⟩,g5⟩,g6⟩,g7⟩,g8⟩,g9⟩:=hg
   obtain⟨t,ht,h⟩:=Res.bind_ok h
   have ht:=Res.testW_ok hX ht
   have k:=aOv _ _ _ _ _ _ _ _ _ _ (E.fits_in hX g0) (E.fits_in hX g1) (E.fits_in hX g2) (E.fits_in hX g3) (E.fits_in hX g4) (E.fits_in hX g5) (E.fits_in hX g6) (E.fits_in hX g7) (E.fits_in hX g8) (E.fits_in hX g9) w hw
   cases t with
   |true=>
    cases h
    rw[if_pos (aE8.1 ht)]at k
    exact bC hv rfl rfl k
   |false=>
    cases h
    rw[if_neg (fun q=>by have:=aE8.2 q;rw[ht]at this;cases this)]at k
    exact bC hv rfl rfl k
  ·cases h
 ·cases h
def aGX:aZ:=dR 14 nC aPT
theorem aFM {X:Ctx} {ρ:Nat→Int} (hX:X.Ok ρ) (hG:X.G=G):eO Try.prog X ρ GB aGX:=cD (aOw hX hG) (yV hX hG)
def jY:aZ:=dR 95 pI aGX
theorem gL {X:Ctx} {ρ:Nat→Int} (hX:X.Ok ρ) (hG:X.G=G):eO Try.prog X ρ GB jY:=cD (aZi hX hG) (aFM hX hG)
def aWT:St:=⟨(.any::(.int .i64 (.var 32))::(.ptr 0 0)::.any::(.own 3 (.var 34) (some (.op .shl (.lit 4) (.var 32))))::.any::(.ptr 1 0)::zz0::zzn 21 (zz0::.any::.any::.any::(.int .i64 (.op .shl (.lit 1) (.var 32)))::(.int .i64 (.var 33))::zzn 17 ([]))),[some (zzx,25),some ((zzx++[(.int .i64 (.lit 1)),(.int .i64 (.var 32))]),75),none,iE [.int .i64,.int .i64] (.var 35) (.var 34) 23]⟩
def aKG:St:=⟨(.any::(.int .i64 (.var 32))::(.ptr 0 0)::.any::(.own 3 (.op .shl (.lit 1) (.var 32)) (some (.op .shl (.lit 4) (.var 32))))::.any::(.ptr 1 0)::zzn 22 (zz0::zzn 22 ([]))),[some (zzx,25),some ((zzx++[(.int .i64 (.lit 1)),(.int .i64 (.var 32))]),75),none,iE [.int .i64,.int .i64] (.app 40 (.cons (.var 0) (.cons (.var 1) (.cons (.var 2) (.cons (.var 3) (.cons (.var 4) (.cons (.var 5) (.cons (.var 6) (.cons (.var 7) (.cons (.var 8) (.cons (.var 9) (.cons (.var 10) (.cons (.var 11) (.cons (.var 12) (.cons (.var 13) (.cons (.var 14) (.cons (.var 15) (.cons (.var 16) (.cons (.var 17) (.cons (.var 18) (.cons (.var 19) (.cons (.var 20) (.cons (.var 21) (.cons (.var 22) (.cons (.var 23) (.cons (.var 24) (.cons (.var 25) (.cons (.var 26) (.cons (.var 27) (.cons (.var 28) (.cons (.var 29) (.cons (.var 30) (.cons (.var 31) (.cons (.var 32) (.cons (.lit 1) .nil))))))))))))))))))))))))))))))))))) (.op .shl (.lit 1) (.var 32)) 23]⟩
def aL0:LoopS:=⟨33,3,aWT,.lit true,.exit 2,aKG,.exit 2,aKG⟩
def aH3:List E:=[(.var 0),(.var 1),(.var 2),(.var 3),(.var 4),(.var 5),(.var 6),(.var 7),(.var 8),(.var 9),(.var 10),(.var 11),(.var 12),(.var 13),(.var 14),(.var 15),(.var 16),(.var 17),(.var 18),(.var 19),(.var 20),(.var 21),(.var 22),(.var 23),(.var 24),(.var 25),(.var 26),(.var 27),(.var 28),(.var 29),(.var 30),(.var 31),(.var 32),(.lit 0),(.lit 0),(.lit 0)]
def aCv:LoopU:=⟨aL0,aH3,[zzJ,zzJ,zzJ,zzJ,zzJ,zzJ,zzJ,zzJ,zzJ,zzJ,zzJ,zzJ,zzJ,zzJ,zzJ,zzJ,zzJ,zzJ,zzJ,zzJ,zzJ,zzJ,zzJ,zzJ,zzJ,zzJ,zzJ,zzJ,zzJ,zzJ,zzJ,zzJ,(1,6),(0,64),(0,256)],.lit true⟩
def sE (P:Program) (fs:List B):Res SV:=bK G GI [zzJ,zzJ,zzJ,zzJ,zzJ,zzJ,zzJ,zzJ,zzJ,zzJ,zzJ,zzJ,zzJ,zzJ,zzJ,zzJ,zzJ,zzJ,zzJ,zzJ,zzJ,zzJ,zzJ,zzJ,zzJ,zzJ,zzJ,zzJ,zzJ,zzJ,zzJ,zzJ,(1,6),(0,64),(0,256)] fs fun X=>gI P X GB jY fX 4000 (dX (cV P 11) 1) aL0
def aWW:St:=⟨(.any::(.int .i64 (.var 32))::(.ptr 0 0)::.any::(.own 4 (.var 34) (some (.op .shl (.lit 4) (.var 32))))::.any::(.ptr 1 0)::(.int .i64 (.lit 1))::zzn 21 ((.int .i64 (.lit 1))::.any::.any::.any::(.int .i64 (.op .shl (.lit 1) (.var 32)))::(.int .i64 (.var 33))::zzn 17 ([]))),[some (zzx,25),some ((zzx++[(.int .i64 (.lit 1)),(.int .i64 (.var 32))]),75),none,none,iE [.int .i64,.int .i64] (.var 35) (.var 34) 23]⟩
def aKI:St:=⟨(.any::(.int .i64 (.var 32))::(.ptr 0 0)::.any::(.own 4 (.op .mul (.lit 2) (.op .shl (.lit 1) (.var 32))) (some (.op .shl (.lit 4) (.var 32))))::.any::(.ptr 1 0)::zzn 22 ((.int .i64 (.lit 1))::zzn 22 ([]))),[some (zzx,25),some ((zzx++[(.int .i64 (.lit 1)),(.int .i64 (.var 32))]),75),none,none,iE [.int .i64,.int .i64] (.app 40 (.cons (.var 0) (.cons (.var 1) (.cons (.var 2) (.cons (.var 3) (.cons (.var 4) (.cons (.var 5) (.cons (.var 6) (.cons (.var 7) (.cons (.var 8) (.cons (.var 9) (.cons (.var 10) (.cons (.var 11) (.cons (.var 12) (.cons (.var 13) (.cons (.var 14) (.cons (.var 15) (.cons (.var 16) (.cons (.var 17) (.cons (.var 18) (.cons (.var 19) (.cons (.var 20) (.cons (.var 21) (.cons (.var 22) (.cons (.var 23) (.cons (.var 24) (.cons (.var 25) (.cons (.var 26) (.cons (.var 27) (.cons (.var 28) (.cons (.var 29) (.cons (.var 30) (.cons (.var 31) (.cons (.var 32) (.cons (.lit 2) .nil))))))))))))))))))))))))))))))))))) (.op .mul (.lit 2) (.op .shl (.lit 1) (.var 32))) 23]⟩
def aKF:LoopS:=⟨33,4,aWW,.lit true,.exit 2,aKI,.exit 2,aKI⟩
def aH7:List E:=[(.var 0),(.var 1),(.var 2),(.var 3),(.var 4),(.var 5),(.var 6),(.var 7),(.var 8),(.var 9),(.var 10),(.var 11),(.var 12),(.var 13),(.var 14),(.var 15),(.var 16),(.var 17),(.var 18),(.var 19),(.var 20),(.var 21),(.var 22),(.var 23),(.var 24),(.var 25),(.var 26),(.var 27),(.var 28),(.var 29),(.var 30),(.var 31),(.var 32),(.lit 0),(.op .shl (.lit 1) (.var 32)),(.app 40 (.cons (.var 0) (.cons (.var 1) (.cons (.var 2) (.cons (.var 3) (.cons (.var 4) (.cons (.var 5) (.cons (.var 6) (.cons (.var 7) (.cons (.var 8) (.cons (.var 9) (.cons (.var 10) (.cons (.var 11) (.cons (.var 12) (.cons (.var 13) (.cons (.var 14) (.cons (.var 15) (.cons (.var 16) (.cons (.var 17) (.cons (.var 18) (.cons (.var 19) (.cons (.var 20) (.cons (.var 21) (.cons (.var 22) (.cons (.var 23) (.cons (.var 24) (.cons (.var 25) (.cons (.var 26) (.cons (.var 27) (.cons (.var 28) (.cons (.var 29) (.cons (.var 30) (.cons (.var 31) (.cons (.var 32) (.cons (.lit 1) .nil)))))))))))))))))))))))))))))))))))]
def aCM:LoopU:=⟨aKF,aH7,[zzJ,zzJ,zzJ,zzJ,zzJ,zzJ,zzJ,zzJ,zzJ,zzJ,zzJ,zzJ,zzJ,zzJ,zzJ,zzJ,zzJ,zzJ,zzJ,zzJ,zzJ,zzJ,zzJ,zzJ,zzJ,zzJ,zzJ,zzJ,zzJ,zzJ,zzJ,zzJ,(1,6),(0,64),(0,256)],.lit true⟩
def sL (P:Program) (fs:List B):Res SV:=bK G GI [zzJ,zzJ,zzJ,zzJ,zzJ,zzJ,zzJ,zzJ,zzJ,zzJ,zzJ,zzJ,zzJ,zzJ,zzJ,zzJ,zzJ,zzJ,zzJ,zzJ,zzJ,zzJ,zzJ,zzJ,zzJ,zzJ,zzJ,zzJ,zzJ,zzJ,zzJ,zzJ,(1,6),(0,64),(0,256)] fs fun X=>gI P X GB jY fX 4000 (dX (cV P 11) 1) aKF
def aWv:St:=⟨(.any::(.int .i64 (.var 32))::(.ptr 0 0)::.any::(.own 5 (.var 34) (some (.op .shl (.lit 4) (.var 32))))::.any::(.ptr 1 0)::(.int .i64 (.lit 2))::zzn 21 ((.int .i64 (.lit 2))::.any::.any::.any::(.int .i64 (.op .shl (.lit 1) (.var 32)))::(.int .i64 (.var 33))::zzn 17 ([]))),[some (zzx,25),some ((zzx++[(.int .i64 (.lit 1)),(.int .i64 (.var 32))]),75),none,none,none,iE [.int .i64,.int .i64] (.var 35) (.var 34) 23]⟩
def aLv:St:=⟨(.any::(.int .i64 (.var 32))::(.ptr 0 0)::.any::(.own 5 (.op .mul (.lit 3) (.op .shl (.lit 1) (.var 32))) (some (.op .shl (.lit 4) (.var 32))))::.any::(.ptr 1 0)::zzn 22 ((.int .i64 (.lit 2))::zzn 22 ([]))),[some (zzx,25),some ((zzx++[(.int .i64 (.lit 1)),(.int .i64 (.var 32))]),75),none,none,none,iE [.int .i64,.int .i64] (.app 40 (.cons (.var 0) (.cons (.var 1) (.cons (.var 2) (.cons (.var 3) (.cons (.var 4) (.cons (.var 5) (.cons (.var 6) (.cons (.var 7) (.cons (.var 8) (.cons (.var 9) (.cons (.var 10) (.cons (.var 11) (.cons (.var 12) (.cons (.var 13) (.cons (.var 14) (.cons (.var 15) (.cons (.var 16) (.cons (.var 17) (.cons (.var 18) (.cons (.var 19) (.cons (.var 20) (.cons (.var 21) (.cons (.var 22) (.cons (.var 23) (.cons (.var 24) (.cons (.var 25) (.cons (.var 26) (.cons (.var 27) (.cons (.var 28) (.cons (.var 29) (.cons (.var 30) (.cons (.var 31) (.cons (.var 32) (.cons (.lit 3) .nil))))))))))))))))))))))))))))))))))) (.op .mul (.lit 3) (.op .shl (.lit 1) (.var 32))) 23]⟩
def aMd:LoopS:=⟨33,5,aWv,.lit true,.exit 2,aLv,.exit 2,aLv⟩
def aHW:List E:=[(.var 0),(.var 1),(.var 2),(.var 3),(.var 4),(.var 5),(.var 6),(.var 7),(.var 8),(.var 9),(.var 10),(.var 11),(.var 12),(.var 13),(.var 14),(.var 15),(.var 16),(.var 17),(.var 18),(.var 19),(.var 20),(.var 21),(.var 22),(.var 23),(.var 24),(.var 25),(.var 26),(.var 27),(.var 28),(.var 29),(.var 30),(.var 31),(.var 32),(.lit 0),(.op .mul (.lit 2) (.op .shl (.lit 1) (.var 32))),(.app 40 (.cons (.var 0) (.cons (.var 1) (.cons (.var 2) (.cons (.var 3) (.cons (.var 4) (.cons (.var 5) (.cons (.var 6) (.cons (.var 7) (.cons (.var 8) (.cons (.var 9) (.cons (.var 10) (.cons (.var 11) (.cons (.var 12) (.cons (.var 13) (.cons (.var 14) (.cons (.var 15) (.cons (.var 16) (.cons (.var 17) (.cons (.var 18) (.cons (.var 19) (.cons (.var 20) (.cons (.var 21) (.cons (.var 22) (.cons (.var 23) (.cons (.var 24) (.cons (.var 25) (.cons (.var 26) (.cons (.var 27) (.cons (.var 28) (.cons (.var 29) (.cons (.var 30) (.cons (.var 31) (.cons (.var 32) (.cons (.lit 2) .nil)))))))))))))))))))))))))))))))))))]
def aCU:LoopU:=⟨aMd,aHW,[zzJ,zzJ,zzJ,zzJ,zzJ,zzJ,zzJ,zzJ,zzJ,zzJ,zzJ,zzJ,zzJ,zzJ,zzJ,zzJ,zzJ,zzJ,zzJ,zzJ,zzJ,zzJ,zzJ,zzJ,zzJ,zzJ,zzJ,zzJ,zzJ,zzJ,zzJ,zzJ,(1,6),(0,64),(0,256)],.lit true⟩
def sV (P:Program) (fs:List B):Res SV:=bK G GI [zzJ,zzJ,zzJ,zzJ,zzJ,zzJ,zzJ,zzJ,zzJ,zzJ,zzJ,zzJ,zzJ,zzJ,zzJ,zzJ,zzJ,zzJ,zzJ,zzJ,zzJ,zzJ,zzJ,zzJ,zzJ,zzJ,zzJ,zzJ,zzJ,zzJ,zzJ,zzJ,(1,6),(0,64),(0,256)] fs fun X=>gI P X GB jY fX 4000 (dX (cV P 11) 1) aMd
def aY2:St:=⟨(.any::(.int .i64 (.var 32))::(.ptr 0 0)::.any::(.own 6 (.var 34) (some (.op .shl (.lit 4) (.var 32))))::.any::(.ptr 1 0)::(.int .i64 (.lit 3))::zzn 21 ((.int .i64 (.lit 3))::.any::.any::.any::(.int .i64 (.op .shl (.lit 1) (.var 32)))::(.int .i64 (.var 33))::zzn 17 ([]))),[some (zzx,25),some ((zzx++[(.int .i64 (.lit 1)),(.int .i64 (.var 32))]),75),none,none,none,none,iE [.int .i64,.int .i64] (.var 35) (.var 34) 23]⟩
def aLB:St:=⟨(.any::(.int .i64 (.var 32))::(.ptr 0 0)::.any::(.own 6 (.op .mul (.lit 4) (.op .shl (.lit 1) (.var 32))) (some (.op .shl (.lit 4) (.var 32))))::.any::(.ptr 1 0)::zzn 22 ((.int .i64 (.lit 3))::zzn 22 ([]))),[some (zzx,25),some ((zzx++[(.int .i64 (.lit 1)),(.int .i64 (.var 32))]),75),none,none,none,none,iE [.int .i64,.int .i64] (.app 40 (.cons (.var 0) (.cons (.var 1) (.cons (.var 2) (.cons (.var 3) (.cons (.var 4) (.cons (.var 5) (.cons (.var 6) (.cons (.var 7) (.cons (.var 8) (.cons (.var 9) (.cons (.var 10) (.cons (.var 11) (.cons (.var 12) (.cons (.var 13) (.cons (.var 14) (.cons (.var 15) (.cons (.var 16) (.cons (.var 17) (.cons (.var 18) (.cons (.var 19) (.cons (.var 20) (.cons (.var 21) (.cons (.var 22) (.cons (.var 23) (.cons (.var 24) (.cons (.var 25) (.cons (.var 26) (.cons (.var 27) (.cons (.var 28) (.cons (.var 29) (.cons (.var 30) (.cons (.var 31) (.cons (.var 32) (.cons (.lit 4) .nil))))))))))))))))))))))))))))))))))) (.op .mul (.lit 4) (.op .shl (.lit 1) (.var 32))) 23]⟩
def aKO:LoopS:=⟨33,6,aY2,.lit true,.exit 2,aLB,.exit 2,aLB⟩
def aHM:List E:=[(.var 0),(.var 1),(.var 2),(.var 3),(.var 4),(.var 5),(.var 6),(.var 7),(.var 8),(.var 9),(.var 10),(.var 11),(.var 12),(.var 13),(.var 14),(.var 15),(.var 16),(.var 17),(.var 18),(.var 19),(.var 20),(.var 21),(.var 22),(.var 23),(.var 24),(.var 25),(.var 26),(.var 27),(.var 28),(.var 29),(.var 30),(.var 31),(.var 32),(.lit 0),(.op .mul (.lit 3) (.op .shl (.lit 1) (.var 32))),(.app 40 (.cons (.var 0) (.cons (.var 1) (.cons (.var 2) (.cons (.var 3) (.cons (.var 4) (.cons (.var 5) (.cons (.var 6) (.cons (.var 7) (.cons (.var 8) (.cons (.var 9) (.cons (.var 10) (.cons (.var 11) (.cons (.var 12) (.cons (.var 13) (.cons (.var 14) (.cons (.var 15) (.cons (.var 16) (.cons (.var 17) (.cons (.var 18) (.cons (.var 19) (.cons (.var 20) (.cons (.var 21) (.cons (.var 22) (.cons (.var 23) (.cons (.var 24) (.cons (.var 25) (.cons (.var 26) (.cons (.var 27) (.cons (.var 28) (.cons (.var 29) (.cons (.var 30) (.cons (.var 31) (.cons (.var 32) (.cons (.lit 3) .nil)))))))))))))))))))))))))))))))))))]
def aCA:LoopU:=⟨aKO,aHM,[zzJ,zzJ,zzJ,zzJ,zzJ,zzJ,zzJ,zzJ,zzJ,zzJ,zzJ,zzJ,zzJ,zzJ,zzJ,zzJ,zzJ,zzJ,zzJ,zzJ,zzJ,zzJ,zzJ,zzJ,zzJ,zzJ,zzJ,zzJ,zzJ,zzJ,zzJ,zzJ,(1,6),(0,64),(0,256)],.lit true⟩
def tE (P:Program) (fs:List B):Res SV:=bK G GI [zzJ,zzJ,zzJ,zzJ,zzJ,zzJ,zzJ,zzJ,zzJ,zzJ,zzJ,zzJ,zzJ,zzJ,zzJ,zzJ,zzJ,zzJ,zzJ,zzJ,zzJ,zzJ,zzJ,zzJ,zzJ,zzJ,zzJ,zzJ,zzJ,zzJ,zzJ,zzJ,(1,6),(0,64),(0,256)] fs fun X=>gI P X GB jY fX 4000 (dX (cV P 11) 1) aKO
def bW:B:=(.and (.cmp .le (.lit 1) (.var 32)) (.and (.cmp .le (.var 32) (.lit 6)) zzF))
def aIR:FunS:=⟨[(.agg zzx),(.int .i64 (.var 32))],bQ GB,bW,(.tuple [(.own 0 (.op .mul (.lit 4) (.op .shl (.lit 1) (.var 32))) (some (.op .shl (.lit 4) (.var 32)))),(.int .i64 (.lit 0))]),bQ GB++[iE [.int .i64,.int .i64] (.app 40 (.cons (.var 0) (.cons (.var 1) (.cons (.var 2) (.cons (.var 3) (.cons (.var 4) (.cons (.var 5) (.cons (.var 6) (.cons (.var 7) (.cons (.var 8) (.cons (.var 9) (.cons (.var 10) (.cons (.var 11) (.cons (.var 12) (.cons (.var 13) (.cons (.var 14) (.cons (.var 15) (.cons (.var 16) (.cons (.var 17) (.cons (.var 18) (.cons (.var 19) (.cons (.var 20) (.cons (.var 21) (.cons (.var 22) (.cons (.var 23) (.cons (.var 24) (.cons (.var 25) (.cons (.var 26) (.cons (.var 27) (.cons (.var 28) (.cons (.var 29) (.cons (.var 30) (.cons (.var 31) (.cons (.var 32) (.cons (.lit 4) .nil))))))))))))))))))))))))))))))))))) (.op .mul (.lit 4) (.op .shl (.lit 1) (.var 32))) 23],(.tuple [(.con (.slice none 0 0)),(.int .i64 (.lit 1))]),bQ GB⟩
def aJ8:eW:=kR 12 (gY (bX GB) [aCv,aCM,aCU,aCA]) fX
theorem aJ3:bM (cV Try.prog 11)=[dX (cV Try.prog 11) 0,dX (cV Try.prog 11) 1]:=by kernel_rfl
namespace Sx
open Go Go.RowKit
def qR (P:Program) (X:Ctx) (gb:dT) (ct:aZ) (lp:eW) (n:Nat) (b:Code) (l:LoopS) (S S':St):Res SV:=
 if (bS b).isEmpty then (cK P X gb ct lp n 0 b S).bind (aXT (bX gb) l S') else .fail 158
def dL (G:Nat→List Int→Int) (ρ ρT:Nat→Int) (n0:Nat) (b:B) (more:Bool):SV→Prop
 | .agg l=>more=true∧aJ G ρ ρ l
 | .tuple [.agg l,.bool (.lit r)]=>b.den G ρT=r∧eI n0 ρ ρT∧aJ G ρ ρT l
 |_=>False
theorem lN {P:Program} {G:Nat→List Int→Int} {GI:Nat→List gG→gG} {gb:dT} {ct:aZ} {lp:eW} {n N:Nat} {b:Code} {l:LoopS} {S:Nat→St} {vars:List (Int × Int)} {ρ ρT:Nat→Int} {run:Nat→List B→Res SV}
  (hrun:∀ k fs,run k fs=bK G GI vars fs fun X=>qR P X gb ct lp n b l (S k) (S (k+1))) (hm:iY P) (hfl:gK gb=true) (hg:GiOk G GI)
  (hv:∀ i q,vars[i]?=some q→q.1≤ρ i∧ρ i≤q.2)
  (hct:∀ X:Ctx,X.Ok ρ→X.G=G→eO P X ρ gb ct) (hlp:∀ X:Ctx,X.Ok ρ→X.G=G→lB P X ρ (bX gb) lp b)
  (way:∀ k,k≤N→jH (run k) G ρ (dL G ρ ρT l.n0 l.b (decide (k<N))) []) (hbase:∀ k,k≤N→l.base≤(S k).heap.length):
  ∀ d k,k≤N→N-k<d→aJG P G (bX gb) b { l with S:=S k } ρ ρT d
 |0,k,_,hk=>by omega
 |d+1,k,hkN,hk=>by
  intro X hXG m0 σ0 α0 w0 hd hs hm0 mm α a w Q hr x0 hQ
  have ih:=lN hrun hm hfl hg hv hct hlp way hbase d
  obtain⟨fs,s,h1,h2,h3⟩:=way k hkN (fun b hb=>by cases hb)
  rw[hrun,jV]at h2
  have hX1:=jP (show Ctx.Ok ⟨G,GI,vars,fs⟩ ρ from⟨hv,h1,hg⟩)
  unfold qR at h2
  split at h2
  case isFalse=>cases h2
  rename_i hrg
  obtain⟨r,q1,q2⟩:=Res.bind_ok h2
  obtain⟨e,st'⟩:=r
  rw[rounds_succ]
  refine oL hX1 (hct _ hX1 rfl) hfl hm n b (S k) e st' (hlp _ hX1 rfl) (by rw[List.isEmpty_iff.1 hrg];simp) q1 α a w _ (RelSt.ctx hXG hr) ?_
  intro a1 w1 α1 r1 x1
  have x2:=x0.trans x1 (Nat.le_trans hm0 (hbase k hkN))
  unfold aXT at q2
  split at q2
  ·rename_i he
   simp only at he
   subst he
   split at q2
   ·rename_i L hL
    cases q2
    simp only[dL]at h3
    obtain⟨hmore,hag⟩:=h3
    have hlt:=of_decide_eq_true hmore
    obtain⟨α2,r2,sn⟩:=St.diffG_rel (X':=X) (G:=G) rfl hXG (fun _ _=>rfl) hL hag r1
    simp only[Ex.toExit,Exit.then]
    exact ih (k+1) hlt (by omega) X hXG m0 σ0 α0 w0 hd hs hm0 mm α2 a1 w1 Q r2 (sn _ _ _ _ hd hs hm0 x2) hQ
   ·cases q2
  ·rename_i he
   have fin:∀ (r:Bool) (L:List SV),e=(if r then l.e1 else l.e2)→St.diffG l.n0 l.base (bX gb) st' (if r then l.T1 else l.T2)=some L→l.b.den G ρT=r∧eI l.n0 ρ ρT∧aJ G ρ ρT L→Exit.then (fun a w=>Code.rounds P b Q d a w) Q e.toExit a1 w1:=by
    intro r L he1 hL ⟨g1,g2,g3⟩
    obtain⟨α2,r2,sn⟩:=St.diffG_rel (X':=X) (G:=G) rfl hXG g2 hL g3 r1
    have:=hQ r a1 w1 α2 g1 r2 (sn _ _ _ _ hd hs hm0 x2)
    simp only at this
    rw[←he1]at this
    cases e with
    |normal=>exact absurd rfl he
    |exit id=>exact this
    |ret=>exact this
   split at q2
   ·rename_i L hL
    cases q2
    simp only[dL]at h3
    split at hL
    ·rename_i hs1
     exact fin true L (Ex.same_eq hs1) hL h3
    ·cases hL
   ·split at q2
    ·rename_i L hL
     cases q2
     simp only[dL]at h3
     split at hL
     ·rename_i hs1
      exact fin false L (Ex.same_eq hs1) hL h3
     ·cases hL
    ·cases q2
end Sx
end Go.Proofs.Ytkpdiehbaiepaaa
