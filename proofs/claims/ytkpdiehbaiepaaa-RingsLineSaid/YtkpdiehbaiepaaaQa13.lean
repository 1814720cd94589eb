/- What is proved: what functions of this program return: each over all its ways. The conditions are the numbers' own bounds. -/
import Derived.Test.YtkpdiehbaiepaaaQNn
import Derived.Test.YtkpdiehbaiepaaaQa10
import Derived.Test.YtkpdiehbaiepaaaQa12
import Derived.Test.YtkpdiehbaiepaaaQg3
import Derived.Test.YtkpdiehbaiepaaaProg
import Derived.Test.YtkpdiehbaiepaaaQa1
import Derived.Test.YtkpdiehbaiepaaaQg4
import Derived.Test.YtkpdiehbaiepaaaQg6
set_option linter.unusedSimpArgs false
set_option linter.unusedVariables false
namespace Go.Proofs.Ytkpdiehbaiepaaa
open Go Go.RowKit Sx Wi
set_option maxHeartbeats 40000000 in
set_option maxRecDepth 100000 in
theorem aNp (x0 x1 x2 x3 x4 x5 x6 x7 x8 x9:Int) (b0:zzi x0) (b1:zzi x1) (b2:zzi x2) (b3:zzi x3) (b4:zzi x4) (b5:zzi x5) (b6:zzi x6) (b7:zzi x7) (b8:zzi x8) (b9:zzi x9) (w:World) (hw:pR GB w):dM Try.prog 98∧Calls Try.prog 98 #[(.agg #[.int .i64 x0,.int .i64 x1,.int .i64 x2,.int .i64 x3,.int .i64 x4,.int .i64 x5,.int .i64 x6,.int .i64 x7]),.int .i64 x8,.int .i64 x9] w (fun e w'=>e = .returned (if eQ x0 x1 x2 x3 x4 x5 x6 x7 x8 x9 then .tuple #[.agg #[.int .i64 (eX x0 x2 x4 x6 x8 x9),.int .i64 (eX x1 x3 x5 x7 x8 x9)],.int .i64 0] else .tuple #[.agg #[.int .i64 0,.int .i64 0],.int .i64 1])∧Below w.heap.size w w'):=by
 refine dK (dC (ρ:=bT [x0,x1,x2,x3,x4,x5,x6,x7,x8,x9]) (run:=fun fs=>dS Try.prog fs) (fun _=>rfl) fits (bL ⟨b0,b1,b2,b3,b4,b5,b6,b7,b8,b9,trivial⟩) dY (fun X hX hG=>aJp hX hG) rfl rfl bV ?_ w hw)
 refine aG (.cmp .le (.lit 0) (.var 9)) (fun h0=>?_) (fun h0=>?_)
 rotate_left
 ·skip
  refine aE aNG ?_
  refine⟨rfl,?_⟩;simp only[nn,G,wG,cO,cN]at *;(try simp only[zzp]at *);(try simp only[Int.not_lt,Int.not_le,Int.max_le,Int.le_min]at *);rw[if_neg (by unfold eQ dI;(try simp only[IntKind.wrap_i64]at *);omega)]<;>rfl
 refine aG (.cmp .le (.var 9) (.lit 6)) (fun h1=>?_) (fun h1=>?_)
 rotate_left
 ·skip
  refine aE aNS ?_
  refine⟨rfl,?_⟩;simp only[nn,G,wG,cO,cN]at *;(try simp only[zzp]at *);(try simp only[Int.not_lt,Int.not_le,Int.max_le,Int.le_min]at *);rw[if_neg (by unfold eQ dI;(try simp only[IntKind.wrap_i64]at *);omega)]<;>rfl
 refine aG (.cmp .le (.lit 0) (.var 8)) (fun h2=>?_) (fun h2=>?_)
 rotate_left
 ·skip
  refine aE aOe ?_
  refine⟨rfl,?_⟩;simp only[nn,G,wG,cO,cN]at *;(try simp only[zzp]at *);(try simp only[Int.not_lt,Int.not_le,Int.max_le,Int.le_min]at *);rw[if_neg (by unfold eQ dI;(try simp only[IntKind.wrap_i64]at *);omega)]<;>rfl
 refine aG (.cmp .lt (.op .shl (.lit 1) (.var 9)) (.var 8)) (fun h3=>?_) (fun h3=>?_)
 ·skip
  refine aE aQd ?_
  refine⟨rfl,?_⟩;simp only[nn,G,wG,cO,cN]at *;(try simp only[zzp]at *);(try simp only[Int.not_lt,Int.not_le,Int.max_le,Int.le_min]at *);rw[if_neg (by unfold eQ dI;(try simp only[IntKind.wrap_i64]at *);omega)]<;>rfl
 refine aG (.cmp .le (.var 0) (.lit 1099511627776)) (fun h4=>?_) (fun h4=>?_)
 rotate_left
 ·skip
  refine aE aN7 ?_
  refine⟨rfl,?_⟩;simp only[nn,G,wG,cO,cN]at *;(try simp only[zzp]at *);(try simp only[Int.not_lt,Int.not_le,Int.max_le,Int.le_min]at *);rw[if_neg (by unfold eQ dI;(try simp only[IntKind.wrap_i64]at *);omega)]<;>rfl
 refine aG (.cmp .le (.lit (-1099511627776)) (.var 0)) (fun h5=>?_) (fun h5=>?_)
 rotate_left
 ·skip
  refine aE aN0 ?_
  refine⟨rfl,?_⟩;simp only[nn,G,wG,cO,cN]at *;(try simp only[zzp]at *);(try simp only[Int.not_lt,Int.not_le,Int.max_le,Int.le_min]at *);rw[if_neg (by unfold eQ dI;(try simp only[IntKind.wrap_i64]at *);omega)]<;>rfl
 refine aG (.cmp .le (.var 1) (.lit 1099511627776)) (fun h6=>?_) (fun h6=>?_)
 rotate_left
 ·skip
  refine aE aMA ?_
  refine⟨rfl,?_⟩;simp only[nn,G,wG,cO,cN]at *;(try simp only[zzp]at *);(try simp only[Int.not_lt,Int.not_le,Int.max_le,Int.le_min]at *);rw[if_neg (by unfold eQ dI;(try simp only[IntKind.wrap_i64]at *);omega)]<;>rfl
 refine aG (.cmp .lt (.var 1) (.lit (-1099511627776))) (fun h7=>?_) (fun h7=>?_)
 ·skip
  refine aE aUY ?_
  refine⟨rfl,?_⟩;simp only[nn,G,wG,cO,cN]at *;(try simp only[zzp]at *);(try simp only[Int.not_lt,Int.not_le,Int.max_le,Int.le_min]at *);rw[if_neg (by unfold eQ dI;(try simp only[IntKind.wrap_i64]at *);omega)]<;>rfl
 refine aG (.cmp .le (.var 2) (.lit 1099511627776)) (fun h8=>?_) (fun h8=>?_)
 rotate_left
 ·skip
  refine aE aNw ?_
  refine⟨rfl,?_⟩;simp only[nn,G,wG,cO,cN]at *;(try simp only[zzp]at *);(try simp only[Int.not_lt,Int.not_le,Int.max_le,Int.le_min]at *);rw[if_neg (by unfold eQ dI;(try simp only[IntKind.wrap_i64]at *);omega)]<;>rfl
 refine aG (.cmp .le (.lit (-1099511627776)) (.var 2)) (fun h9=>?_) (fun h9=>?_)
 rotate_left
 ·skip
  refine aE aNf ?_
  refine⟨rfl,?_⟩;simp only[nn,G,wG,cO,cN]at *;(try simp only[zzp]at *);(try simp only[Int.not_lt,Int.not_le,Int.max_le,Int.le_min]at *);rw[if_neg (by unfold eQ dI;(try simp only[IntKind.wrap_i64]at *);omega)]<;>rfl
 refine aG (.cmp .le (.var 3) (.lit 1099511627776)) (fun h10=>?_) (fun h10=>?_)
 rotate_left
 ·skip
  refine aE aNM ?_
  refine⟨rfl,?_⟩;simp only[nn,G,wG,cO,cN]at *;(try simp only[zzp]at *);(try simp only[Int.not_lt,Int.not_le,Int.max_le,Int.le_min]at *);rw[if_neg (by unfold eQ dI;(try simp only[IntKind.wrap_i64]at *);omega)]<;>rfl
 refine aG (.cmp .lt (.var 3) (.lit (-1099511627776))) (fun h11=>?_) (fun h11=>?_)
 ·skip
  refine aE aNg ?_
  refine⟨rfl,?_⟩;simp only[nn,G,wG,cO,cN]at *;(try simp only[zzp]at *);(try simp only[Int.not_lt,Int.not_le,Int.max_le,Int.le_min]at *);rw[if_neg (by unfold eQ dI;(try simp only[IntKind.wrap_i64]at *);omega)]<;>rfl
 refine aG (.cmp .le (.var 4) (.lit 1099511627776)) (fun h12=>?_) (fun h12=>?_)
 rotate_left
 ·skip
  refine aE aNq ?_
  refine⟨rfl,?_⟩;simp only[nn,G,wG,cO,cN]at *;(try simp only[zzp]at *);(try simp only[Int.not_lt,Int.not_le,Int.max_le,Int.le_min]at *);rw[if_neg (by unfold eQ dI;(try simp only[IntKind.wrap_i64]at *);omega)]<;>rfl
 refine aG (.cmp .le (.lit (-1099511627776)) (.var 4)) (fun h13=>?_) (fun h13=>?_)
 rotate_left
 ·skip
  refine aE aNo ?_
  refine⟨rfl,?_⟩;simp only[nn,G,wG,cO,cN]at *;(try simp only[zzp]at *);(try simp only[Int.not_lt,Int.not_le,Int.max_le,Int.le_min]at *);rw[if_neg (by unfold eQ dI;(try simp only[IntKind.wrap_i64]at *);omega)]<;>rfl
 refine aG (.cmp .le (.var 5) (.lit 1099511627776)) (fun h14=>?_) (fun h14=>?_)
 rotate_left
 ·skip
  refine aE aNH ?_
  refine⟨rfl,?_⟩;simp only[nn,G,wG,cO,cN]at *;(try simp only[zzp]at *);(try simp only[Int.not_lt,Int.not_le,Int.max_le,Int.le_min]at *);rw[if_neg (by unfold eQ dI;(try simp only[IntKind.wrap_i64]at *);omega)]<;>rfl
 refine aG (.cmp .lt (.var 5) (.lit (-1099511627776))) (fun h15=>?_) (fun h15=>?_)
 ·skip
  refine aE aNC ?_
  refine⟨rfl,?_⟩;simp only[nn,G,wG,cO,cN]at *;(try simp only[zzp]at *);(try simp only[Int.not_lt,Int.not_le,Int.max_le,Int.le_min]at *);rw[if_neg (by unfold eQ dI;(try simp only[IntKind.wrap_i64]at *);omega)]<;>rfl
 refine aG (.cmp .le (.var 6) (.lit 1099511627776)) (fun h16=>?_) (fun h16=>?_)
 rotate_left
 ·skip
  refine aE aNO ?_
  refine⟨rfl,?_⟩;simp only[nn,G,wG,cO,cN]at *;(try simp only[zzp]at *);(try simp only[Int.not_lt,Int.not_le,Int.max_le,Int.le_min]at *);rw[if_neg (by unfold eQ dI;(try simp only[IntKind.wrap_i64]at *);omega)]<;>rfl
 refine aG (.cmp .le (.lit (-1099511627776)) (.var 6)) (fun h17=>?_) (fun h17=>?_)
 rotate_left
 ·skip
  refine aE aMD ?_
  refine⟨rfl,?_⟩;simp only[nn,G,wG,cO,cN]at *;(try simp only[zzp]at *);(try simp only[Int.not_lt,Int.not_le,Int.max_le,Int.le_min]at *);rw[if_neg (by unfold eQ dI;(try simp only[IntKind.wrap_i64]at *);omega)]<;>rfl
 refine aG (.cmp .le (.var 7) (.lit 1099511627776)) (fun h18=>?_) (fun h18=>?_)
 rotate_left
 ·skip
  refine aE aNX ?_
  refine⟨rfl,?_⟩;simp only[nn,G,wG,cO,cN]at *;(try simp only[zzp]at *);(try simp only[Int.not_lt,Int.not_le,Int.max_le,Int.le_min]at *);rw[if_neg (by unfold eQ dI;(try simp only[IntKind.wrap_i64]at *);omega)]<;>rfl
 refine aG (.cmp .lt (.var 7) (.lit (-1099511627776))) (fun h19=>?_) (fun h19=>?_)
 ·skip
  refine aE aNi ?_
  refine⟨rfl,?_⟩;simp only[nn,G,wG,cO,cN]at *;(try simp only[zzp]at *);(try simp only[Int.not_lt,Int.not_le,Int.max_le,Int.le_min]at *);rw[if_neg (by unfold eQ dI;(try simp only[IntKind.wrap_i64]at *);omega)]<;>rfl
 refine aE aN6 ?_
 refine⟨rfl,?_⟩;simp only[nn,G,wG,cO,cN]at *;(try simp only[zzp]at *);(try simp only[Int.not_lt,Int.not_le,Int.max_le,Int.le_min]at *);have hk:eQ x0 x1 x2 x3 x4 x5 x6 x7 x8 x9:=(by unfold eQ dI;(repeat' refine And.intro ?_ ?_)<;>omega);rw[if_pos hk,aUQ (aS8 hk) (by (unfold Bz.sum Bz.w0 Bz.w1 Bz.w2 Bz.w3;grind)) rfl,aUQ (aSl hk) (by (unfold Bz.sum Bz.w0 Bz.w1 Bz.w2 Bz.w3;grind)) rfl]
theorem aBn {ρ:Nat→Int} {a0 a1 a2 a3 a4 a5 a6 a7 a8 a9:E}:B.den G ρ ((.and (.cmp .le (.lit 0) a9) (.and (.cmp .le a9 (.lit 6)) (.and (.cmp .le (.lit 0) a8) (.and (.cmp .le a8 (.op .shl (.lit 1) a9)) (.and (.cmp .le (.lit (-1099511627776)) a0) (.and (.cmp .le a0 (.lit 1099511627776)) (.and (.cmp .le (.lit (-1099511627776)) a1) (.and (.cmp .le a1 (.lit 1099511627776)) (.and (.cmp .le (.lit (-1099511627776)) a2) (.and (.cmp .le a2 (.lit 1099511627776)) (.and (.cmp .le (.lit (-1099511627776)) a3) (.and (.cmp .le a3 (.lit 1099511627776)) (.and (.cmp .le (.lit (-1099511627776)) a4) (.and (.cmp .le a4 (.lit 1099511627776)) (.and (.cmp .le (.lit (-1099511627776)) a5) (.and (.cmp .le a5 (.lit 1099511627776)) (.and (.cmp .le (.lit (-1099511627776)) a6) (.and (.cmp .le a6 (.lit 1099511627776)) (.and (.cmp .le (.lit (-1099511627776)) a7) (.cmp .le a7 (.lit 1099511627776))))))))))))))))))))))=true↔eQ (E.den G ρ a0) (E.den G ρ a1) (E.den G ρ a2) (E.den G ρ a3) (E.den G ρ a4) (E.den G ρ a5) (E.den G ρ a6) (E.den G ρ a7) (E.den G ρ a8) (E.den G ρ a9):=by
 simp only[B.den,kJ,E.den,EL.den,aC6,Bool.and_eq_true,decide_eq_true_eq];simp only[zzp];unfold eQ dI;simp only[and_assoc]
def nE:eU:=fun X args=>
 match args with
 |[(.agg [.int .i64 a0,.int .i64 a1,.int .i64 a2,.int .i64 a3,.int .i64 a4,.int .i64 a5,.int .i64 a6,.int .i64 a7]),.int .i64 a8,.int .i64 a9]=>if a0.fits X .i64 && a1.fits X .i64 && a2.fits X .i64 && a3.fits X .i64 && a4.fits X .i64 && a5.fits X .i64 && a6.fits X .i64 && a7.fits X .i64 && a8.fits X .i64 && a9.fits X .i64 then (Res.testW X ((.and (.cmp .le (.lit 0) a9) (.and (.cmp .le a9 (.lit 6)) (.and (.cmp .le (.lit 0) a8) (.and (.cmp .le a8 (.op .shl (.lit 1) a9)) (.and (.cmp .le (.lit (-1099511627776)) a0) (.and (.cmp .le a0 (.lit 1099511627776)) (.and (.cmp .le (.lit (-1099511627776)) a1) (.and (.cmp .le a1 (.lit 1099511627776)) (.and (.cmp .le (.lit (-1099511627776)) a2) (.and (.cmp .le a2 (.lit 1099511627776)) (.and (.cmp .le (.lit (-1099511627776)) a3) (.and (.cmp .le a3 (.lit 1099511627776)) (.and (.cmp .le (.lit (-1099511627776)) a4) (.and (.cmp .le a4 (.lit 1099511627776)) (.and (.cmp .le (.lit (-1099511627776)) a5) (.and (.cmp .le a5 (.lit 1099511627776)) (.and (.cmp .le (.lit (-1099511627776)) a6) (.and (.cmp .le a6 (.lit 1099511627776)) (.and (.cmp .le (.lit (-1099511627776)) a7) (.cmp .le a7 (.lit 1099511627776))))))))))))))))))))))).bind fun t=>if t then .ok (.tuple [.agg [.int .i64 (.app 10 (.cons a0 (.cons a2 (.cons a4 (.cons a6 (.cons a8 (.cons a9 .nil))))))),.int .i64 (.app 10 (.cons a1 (.cons a3 (.cons a5 (.cons a7 (.cons a8 (.cons a9 .nil)))))))],.int .i64 (.lit 0)]) else .ok (.tuple [.agg [.int .i64 (.lit 0),.int .i64 (.lit 0)],.int .i64 (.lit 1)]) else .fail 200
 |_ => .fail 201
theorem aVQ {X:Ctx} {ρ:Nat→Int} (hX:X.Ok ρ) (hG:X.G=G):dD Try.prog X ρ GB 98 nE:=by
 obtain⟨XG,XI,XV,XF⟩:=X
 simp only at hG
 subst hG
 intro args s h α w vals hv hw
 unfold nE at h
 split at h
 ·split at h
  ·rename_i hg
   try simp only[Bool.and_eq_true]at hg
   obtain⟨⟨⟨⟨⟨⟨⟨⟨⟨g0,g1⟩,g2⟩,g3⟩,g4⟩,g5⟩,g6⟩,g7⟩,g8⟩,g9⟩:=hg
   obtain⟨t,ht,h⟩:=Res.bind_ok h
   have ht:=Res.testW_ok hX ht
   have k:=aNp _ _ _ _ _ _ _ _ _ _ (E.fits_in hX g0) (E.fits_in hX g1) (E.fits_in hX g2) (E.fits_in hX g3) (E.fits_in hX g4) (E.fits_in hX g5) (E.fits_in hX g6) (E.fits_in hX g7) (E.fits_in hX g8) (E.fits_in hX g9) w hw
   cases t with
   |true=>
    cases h
    rw[if_pos (aBn.1 ht)]at k
    exact bC hv rfl rfl k
   |false=>
    cases h
    rw[if_neg (fun q=>by have:=aBn.2 q;rw[ht]at this;cases this)]at k
    exact bC hv rfl rfl k
  ·cases h
 ·cases h
def iO:aZ:=dR 98 nE aZW
theorem fQ {X:Ctx} {ρ:Nat→Int} (hX:X.Ok ρ) (hG:X.G=G):eO Try.prog X ρ GB iO:=cD (aVQ hX hG) (aVM hX hG)
set_option maxRecDepth 100000
open Go Go.RowKit Sx Wi
def aED (P:Program) (fs:List B):Res SV:=bK G GI [zzI,zzI] fs (fun X=>gU P X GB jZ 3000 96 [.agg [.int .i64 (.var 0),.int .i64 (.var 1)]])
def aQ5:List B:=[]
def aSS:B:=(.cmp .le (.var 0) (.lit 1099511627776))
def aRJ:List B:=aH aSS++aQ5
def aUN:B:=(.cmp .le (.lit (-1099511627776)) (.var 0))
def aPu:List B:=aH aUN++aRJ
def aO1:B:=(.cmp .le (.var 1) (.lit 1099511627776))
def bAB:List B:=aH aO1++aPu
def bCs:List B:=aH (B.neg aO1)++aPu
def bA2:List B:=aH (B.neg aUN)++aRJ
def bBC:List B:=aH (B.neg aSS)++aQ5
theorem bCb:aED Try.prog bAB = .ok (.bool (.cmp .le (.lit (-1099511627776)) (.var 1))):=by kernel_rfl
theorem bAv:aED Try.prog bCs = .ok (.bool (.lit false)):=by kernel_rfl
theorem bAL:aED Try.prog bA2 = .ok (.bool (.lit false)):=by kernel_rfl
theorem bAS:aED Try.prog bBC = .ok (.bool (.lit false)):=by kernel_rfl
open Go Go.RowKit Sx Nu Wi
set_option maxHeartbeats 4000000 in
set_option maxRecDepth 100000 in
theorem aWI (x0 x1:Int) (b0:zzi x0) (b1:zzi x1) (w:World) (hw:pR GB w):dM Try.prog 96∧Calls Try.prog 96 #[.agg #[.int .i64 x0,.int .i64 x1]] w (fun e w'=>e = .returned (.bool (decide (dI x0∧dI x1)))∧Below w.heap.size w w'):=by
 refine dK (dC (ρ:=bT [x0,x1]) (run:=aED Try.prog) (fun _=>rfl) fits (bL ⟨b0,b1,trivial⟩) dY (fun X hX hG=>gC) rfl rfl bV ?_ w hw)
 refine aG (.cmp .le (.var 0) (.lit 1099511627776)) (fun h0=>?_) (fun h0=>?_)
 rotate_left
 ·skip
  refine aE bAS ?_
  refine⟨rfl,?_⟩;simp only[nn,G,wG,nq]at *;rw[decide_eq_false (show ¬(dI x0∧dI x1)from by unfold dI;omega)]
 refine aG (.cmp .le (.lit (-1099511627776)) (.var 0)) (fun h1=>?_) (fun h1=>?_)
 rotate_left
 ·skip
  refine aE bAL ?_
  refine⟨rfl,?_⟩;simp only[nn,G,wG,nq]at *;rw[decide_eq_false (show ¬(dI x0∧dI x1)from by unfold dI;omega)]
 refine aG (.cmp .le (.var 1) (.lit 1099511627776)) (fun h2=>?_) (fun h2=>?_)
 ·skip
  refine aE bCb ?_
  refine⟨rfl,?_⟩;simp only[nn,G,wG,nq]at *;congr 1;rw[Bool.eq_iff_iff];simp only[decide_eq_true_eq];exact⟨fun h=>⟨⟨by omega,by omega⟩,⟨h,by omega⟩⟩,fun h=>h.2.1⟩
 refine aE bAv ?_
 refine⟨rfl,?_⟩;simp only[nn,G,wG,nq]at *;rw[decide_eq_false (show ¬(dI x0∧dI x1)from by unfold dI;omega)]
def bDH (a b:E):B := .and (.cmp .le (.lit (-1099511627776)) a) (.and (.cmp .le a (.lit 1099511627776)) (.and (.cmp .le (.lit (-1099511627776)) b) (.cmp .le b (.lit 1099511627776))))
def tA:eU:=fun X args=>
 match args with
 |[.agg [.int .i64 a,.int .i64 b]]=>if a.fits X .i64 && b.fits X .i64 then (Res.testW X (bDH a b)).bind fun t => .ok (.bool (.lit t)) else .fail 238
 |_ => .fail 201
set_option maxRecDepth 100000 in
theorem bA7 {X:Ctx} {ρ:Nat→Int} (hX:X.Ok ρ) (hG:X.G=G):dD Try.prog X ρ GB 96 tA:=by
 obtain⟨XG,XI,XV,XF⟩:=X
 simp only at hG
 subst hG
 intro args s h α w vals hv hw
 unfold tA at h
 split at h
 ·split at h
  ·rename_i a b hg
   simp only[Bool.and_eq_true]at hg
   obtain⟨t,ht,h⟩:=Res.bind_ok h
   have ht:=Res.testW_ok hX ht
   cases h
   have e:SV.den G ρ (.bool (.lit t)) = .bool (decide (dI (a.den G ρ)∧dI (b.den G ρ))):=by
    rw[←ht]
    simp only[SV.den,bDH,B.den,kJ,E.den]
    congr 1
    rw[Bool.eq_iff_iff]
    simp only[Bool.and_eq_true,decide_eq_true_eq,dI,and_assoc]
   refine bC hv rfl rfl ?_
   rw[e]
   exact aWI _ _ (E.fits_in hX hg.1) (E.fits_in hX hg.2) w hw
  ·cases h
 ·cases h
def aOn:aZ:=dR 96 tA iO
theorem aNk {X:Ctx} {ρ:Nat→Int} (hX:X.Ok ρ) (hG:X.G=G):eO Try.prog X ρ GB aOn:=cD (bA7 hX hG) (fQ hX hG)
open Go Go.RowKit Sx Wi
def bDA:St:=⟨(.any::(.int .i64 (.var 32))::(.ptr 0 0)::.any::.any::.any::(.own 1 (.var 34) none)::zz0::(.int .i64 (.var 33))::zzn 29 ([])),[some (zzx,25),iE [.int .i64,.int .i64] (.var 35) (.var 34) 23]⟩
def aZ8:St:=⟨(.any::(.int .i64 (.var 32))::(.ptr 0 0)::.any::.any::.any::(.own 1 (.op .shl (.lit 1) (.var 32)) none)::zz0::zzn 30 ([])),[some (zzx,25),iE [.int .i64,.int .i64] (.app 40 (.cons (.var 0) (.cons (.var 1) (.cons (.var 2) (.cons (.var 3) (.cons (.var 4) (.cons (.var 5) (.cons (.var 6) (.cons (.var 7) (.cons (.var 8) (.cons (.var 9) (.cons (.var 10) (.cons (.var 11) (.cons (.var 12) (.cons (.var 13) (.cons (.var 14) (.cons (.var 15) (.cons (.var 16) (.cons (.var 17) (.cons (.var 18) (.cons (.var 19) (.cons (.var 20) (.cons (.var 21) (.cons (.var 22) (.cons (.var 23) (.cons (.var 24) (.cons (.var 25) (.cons (.var 26) (.cons (.var 27) (.cons (.var 28) (.cons (.var 29) (.cons (.var 30) (.cons (.var 31) (.cons (.var 32) (.cons (.lit 1) .nil))))))))))))))))))))))))))))))))))) (.op .shl (.lit 1) (.var 32)) 23]⟩
def aZ9:LoopS:=⟨33,1,bDA,.lit true,.exit 2,aZ8,.exit 2,aZ8⟩
def aOU:LoopU:=⟨aZ9,aH3,[zzJ,zzJ,zzJ,zzJ,zzJ,zzJ,zzJ,zzJ,zzJ,zzJ,zzJ,zzJ,zzJ,zzJ,zzJ,zzJ,zzJ,zzJ,zzJ,zzJ,zzJ,zzJ,zzJ,zzJ,zzJ,zzJ,zzJ,zzJ,zzJ,zzJ,zzJ,zzJ,(1,6),(0,64),(0,256)],.lit true⟩
def sM (P:Program) (fs:List B):Res SV:=bK G GI [zzJ,zzJ,zzJ,zzJ,zzJ,zzJ,zzJ,zzJ,zzJ,zzJ,zzJ,zzJ,zzJ,zzJ,zzJ,zzJ,zzJ,zzJ,zzJ,zzJ,zzJ,zzJ,zzJ,zzJ,zzJ,zzJ,zzJ,zzJ,zzJ,zzJ,zzJ,zzJ,(1,6),(0,64),(0,256)] fs fun X=>gI P X GB iO fX 8000 (dX (cV P 12) 1) aZ9
def bDE:St:=⟨(.any::(.int .i64 (.var 32))::(.ptr 0 0)::.any::.any::.any::(.own 2 (.var 34) none)::(.int .i64 (.lit 1))::(.int .i64 (.var 33))::zzn 29 ([])),[some (zzx,25),none,iE [.int .i64,.int .i64] (.var 35) (.var 34) 23]⟩
def aZZ:St:=⟨(.any::(.int .i64 (.var 32))::(.ptr 0 0)::.any::.any::.any::(.own 2 (.op .mul (.lit 2) (.op .shl (.lit 1) (.var 32))) none)::(.int .i64 (.lit 1))::zzn 30 ([])),[some (zzx,25),none,iE [.int .i64,.int .i64] (.app 40 (.cons (.var 0) (.cons (.var 1) (.cons (.var 2) (.cons (.var 3) (.cons (.var 4) (.cons (.var 5) (.cons (.var 6) (.cons (.var 7) (.cons (.var 8) (.cons (.var 9) (.cons (.var 10) (.cons (.var 11) (.cons (.var 12) (.cons (.var 13) (.cons (.var 14) (.cons (.var 15) (.cons (.var 16) (.cons (.var 17) (.cons (.var 18) (.cons (.var 19) (.cons (.var 20) (.cons (.var 21) (.cons (.var 22) (.cons (.var 23) (.cons (.var 24) (.cons (.var 25) (.cons (.var 26) (.cons (.var 27) (.cons (.var 28) (.cons (.var 29) (.cons (.var 30) (.cons (.var 31) (.cons (.var 32) (.cons (.lit 2) .nil))))))))))))))))))))))))))))))))))) (.op .mul (.lit 2) (.op .shl (.lit 1) (.var 32))) 23]⟩
def bAf:LoopS:=⟨33,2,bDE,.lit true,.exit 2,aZZ,.exit 2,aZZ⟩
def aQe:LoopU:=⟨bAf,aH7,[zzJ,zzJ,zzJ,zzJ,zzJ,zzJ,zzJ,zzJ,zzJ,zzJ,zzJ,zzJ,zzJ,zzJ,zzJ,zzJ,zzJ,zzJ,zzJ,zzJ,zzJ,zzJ,zzJ,zzJ,zzJ,zzJ,zzJ,zzJ,zzJ,zzJ,zzJ,zzJ,(1,6),(0,64),(0,256)],.lit true⟩
def sQ (P:Program) (fs:List B):Res SV:=bK G GI [zzJ,zzJ,zzJ,zzJ,zzJ,zzJ,zzJ,zzJ,zzJ,zzJ,zzJ,zzJ,zzJ,zzJ,zzJ,zzJ,zzJ,zzJ,zzJ,zzJ,zzJ,zzJ,zzJ,zzJ,zzJ,zzJ,zzJ,zzJ,zzJ,zzJ,zzJ,zzJ,(1,6),(0,64),(0,256)] fs fun X=>gI P X GB iO fX 8000 (dX (cV P 12) 1) bAf
def bDw:St:=⟨(.any::(.int .i64 (.var 32))::(.ptr 0 0)::.any::.any::.any::(.own 3 (.var 34) none)::(.int .i64 (.lit 2))::(.int .i64 (.var 33))::zzn 29 ([])),[some (zzx,25),none,none,iE [.int .i64,.int .i64] (.var 35) (.var 34) 23]⟩
def aZN:St:=⟨(.any::(.int .i64 (.var 32))::(.ptr 0 0)::.any::.any::.any::(.own 3 (.op .mul (.lit 3) (.op .shl (.lit 1) (.var 32))) none)::(.int .i64 (.lit 2))::zzn 30 ([])),[some (zzx,25),none,none,iE [.int .i64,.int .i64] (.app 40 (.cons (.var 0) (.cons (.var 1) (.cons (.var 2) (.cons (.var 3) (.cons (.var 4) (.cons (.var 5) (.cons (.var 6) (.cons (.var 7) (.cons (.var 8) (.cons (.var 9) (.cons (.var 10) (.cons (.var 11) (.cons (.var 12) (.cons (.var 13) (.cons (.var 14) (.cons (.var 15) (.cons (.var 16) (.cons (.var 17) (.cons (.var 18) (.cons (.var 19) (.cons (.var 20) (.cons (.var 21) (.cons (.var 22) (.cons (.var 23) (.cons (.var 24) (.cons (.var 25) (.cons (.var 26) (.cons (.var 27) (.cons (.var 28) (.cons (.var 29) (.cons (.var 30) (.cons (.var 31) (.cons (.var 32) (.cons (.lit 3) .nil))))))))))))))))))))))))))))))))))) (.op .mul (.lit 3) (.op .shl (.lit 1) (.var 32))) 23]⟩
def aZY:LoopS:=⟨33,3,bDw,.lit true,.exit 2,aZN,.exit 2,aZN⟩
def aU2:LoopU:=⟨aZY,aHW,[zzJ,zzJ,zzJ,zzJ,zzJ,zzJ,zzJ,zzJ,zzJ,zzJ,zzJ,zzJ,zzJ,zzJ,zzJ,zzJ,zzJ,zzJ,zzJ,zzJ,zzJ,zzJ,zzJ,zzJ,zzJ,zzJ,zzJ,zzJ,zzJ,zzJ,zzJ,zzJ,(1,6),(0,64),(0,256)],.lit true⟩
def rW (P:Program) (fs:List B):Res SV:=bK G GI [zzJ,zzJ,zzJ,zzJ,zzJ,zzJ,zzJ,zzJ,zzJ,zzJ,zzJ,zzJ,zzJ,zzJ,zzJ,zzJ,zzJ,zzJ,zzJ,zzJ,zzJ,zzJ,zzJ,zzJ,zzJ,zzJ,zzJ,zzJ,zzJ,zzJ,zzJ,zzJ,(1,6),(0,64),(0,256)] fs fun X=>gI P X GB iO fX 8000 (dX (cV P 12) 1) aZY
def bDv:St:=⟨(.any::(.int .i64 (.var 32))::(.ptr 0 0)::.any::.any::.any::(.own 4 (.var 34) none)::(.int .i64 (.lit 3))::(.int .i64 (.var 33))::zzn 29 ([])),[some (zzx,25),none,none,none,iE [.int .i64,.int .i64] (.var 35) (.var 34) 23]⟩
def bAl:St:=⟨(.any::(.int .i64 (.var 32))::(.ptr 0 0)::.any::.any::.any::(.own 4 (.op .mul (.lit 4) (.op .shl (.lit 1) (.var 32))) none)::(.int .i64 (.lit 3))::zzn 30 ([])),[some (zzx,25),none,none,none,iE [.int .i64,.int .i64] (.app 40 (.cons (.var 0) (.cons (.var 1) (.cons (.var 2) (.cons (.var 3) (.cons (.var 4) (.cons (.var 5) (.cons (.var 6) (.cons (.var 7) (.cons (.var 8) (.cons (.var 9) (.cons (.var 10) (.cons (.var 11) (.cons (.var 12) (.cons (.var 13) (.cons (.var 14) (.cons (.var 15) (.cons (.var 16) (.cons (.var 17) (.cons (.var 18) (.cons (.var 19) (.cons (.var 20) (.cons (.var 21) (.cons (.var 22) (.cons (.var 23) (.cons (.var 24) (.cons (.var 25) (.cons (.var 26) (.cons (.var 27) (.cons (.var 28) (.cons (.var 29) (.cons (.var 30) (.cons (.var 31) (.cons (.var 32) (.cons (.lit 4) .nil))))))))))))))))))))))))))))))))))) (.op .mul (.lit 4) (.op .shl (.lit 1) (.var 32))) 23]⟩
def aZP:LoopS:=⟨33,4,bDv,.lit true,.exit 2,bAl,.exit 2,bAl⟩
def aS6:LoopU:=⟨aZP,aHM,[zzJ,zzJ,zzJ,zzJ,zzJ,zzJ,zzJ,zzJ,zzJ,zzJ,zzJ,zzJ,zzJ,zzJ,zzJ,zzJ,zzJ,zzJ,zzJ,zzJ,zzJ,zzJ,zzJ,zzJ,zzJ,zzJ,zzJ,zzJ,zzJ,zzJ,zzJ,zzJ,(1,6),(0,64),(0,256)],.lit true⟩
def sP (P:Program) (fs:List B):Res SV:=bK G GI [zzJ,zzJ,zzJ,zzJ,zzJ,zzJ,zzJ,zzJ,zzJ,zzJ,zzJ,zzJ,zzJ,zzJ,zzJ,zzJ,zzJ,zzJ,zzJ,zzJ,zzJ,zzJ,zzJ,zzJ,zzJ,zzJ,zzJ,zzJ,zzJ,zzJ,zzJ,zzJ,(1,6),(0,64),(0,256)] fs fun X=>gI P X GB iO fX 8000 (dX (cV P 12) 1) aZP
def bAp:FunS:=⟨[(.agg zzx),(.int .i64 (.var 32))],bQ GB,bW,(.tuple [(.own 0 (.op .mul (.lit 4) (.op .shl (.lit 1) (.var 32))) none),(.int .i64 (.lit 0))]),bQ GB++[iE [.int .i64,.int .i64] (.app 40 (.cons (.var 0) (.cons (.var 1) (.cons (.var 2) (.cons (.var 3) (.cons (.var 4) (.cons (.var 5) (.cons (.var 6) (.cons (.var 7) (.cons (.var 8) (.cons (.var 9) (.cons (.var 10) (.cons (.var 11) (.cons (.var 12) (.cons (.var 13) (.cons (.var 14) (.cons (.var 15) (.cons (.var 16) (.cons (.var 17) (.cons (.var 18) (.cons (.var 19) (.cons (.var 20) (.cons (.var 21) (.cons (.var 22) (.cons (.var 23) (.cons (.var 24) (.cons (.var 25) (.cons (.var 26) (.cons (.var 27) (.cons (.var 28) (.cons (.var 29) (.cons (.var 30) (.cons (.var 31) (.cons (.var 32) (.cons (.lit 4) .nil))))))))))))))))))))))))))))))))))) (.op .mul (.lit 4) (.op .shl (.lit 1) (.var 32))) 23],(.tuple [(.con (.slice none 0 0)),(.int .i64 (.lit 1))]),bQ GB⟩
def aZR:eW:=kR 8 (gY (bX GB) [aOU,aQe,aU2,aS6]) fX
theorem aPr:bM (cV Try.prog 12)=[dX (cV Try.prog 12) 0,dX (cV Try.prog 12) 1]:=by kernel_rfl
def aRu (P:Program) (fs:List B):Res SV:=bK G GI [zzI,zzI,zzI,zzI,zzI,zzI,zzI,zzI,zzI,zzI,zzI,zzI,zzI,zzI,zzI,zzI,zzI,zzI,zzI,zzI,zzI,zzI,zzI,zzI,zzI,zzI,zzI,zzI,zzI,zzI,zzI,zzI,zzI] fs fun X=>aAj P X GB aOn aZR 8000 12 bAp
theorem aJb (xs:List Int) (e:Int) (s a:Nat):wT xs e s (a+1)=wT xs e s a++[kX xs e s a]:=by
 unfold wT;rw[List.range_succ,List.map_append];rfl
theorem qI (xs:List Int) (e:Int) (s a:Nat):(wT xs e s a).length=a:=by simp [wT]
theorem eB {e:Int} (h:0≤e) (h':e≤6):1≤p2 e∧p2 e≤64:=by have:=aHo e h h';omega
theorem bZ (xs:List Int) (e:Int):∀ s,(xT xs e s).length=s*(p2 e).toNat
 |0=>by simp [xT]
 |s+1=>by simp only[xT,List.length_append,qI,bZ xs e s,Nat.succ_mul]
def cF (s:Nat) (xs:List Int) (e:Int) (a:Nat):List (List Int):=xT xs e s++wT xs e s a
theorem fB (s:Nat) (xs:List Int) (e:Int) (a:Nat):cF s xs e (a+1)=cF s xs e a++[kX xs e s a]:=by
 unfold cF;rw[aJb,List.append_assoc]
theorem fA (s:Nat) (xs:List Int) (e:Int):cF s xs e 0=xT xs e s:=by simp [cF,wT]
theorem fS (s:Nat) (xs:List Int) (e:Int):cF s xs e (p2 e).toNat=xT xs e (s+1):=rfl
theorem dA (s:Nat) (xs:List Int) (e:Int) (a:Nat) (h:s≤3) (h1:0≤e) (h2:e≤6) (h3:(a:Int)≤p2 e):(cF s xs e a).length≤256:=by
 have hp:=eB h1 h2
 unfold cF
 rw[List.length_append,qI,bZ]
 have h4:s*(p2 e).toNat≤3*64:=Nat.mul_le_mul h (by omega)
 omega
set_option maxRecDepth 100000
open Go Go.RowKit Sx Wi
def aMk (P:Program) (fs:List B):Res SV:=sE P fs
def aGx:List B:=[]
def aDl:B:=(.cmp .lt (.var 33) (.op .shl (.lit 1) (.var 32)))
def aTV:List B:=aH aDl++aGx
def aRn:List B:=aH (B.neg aDl)++aGx
theorem aOs:aMk Try.prog aTV = .ok (.agg [(.int .i64 (.op .add (.var 34) (.lit 1))),(.int .i64 (.var 34)),(.int .i64 (.op .add (.var 33) (.lit 1))),(.int .i64 (.var 33)),(.int .i64 (.app 91 (.cons (.var 35) (.cons (.app 10 (.cons (.var 0) (.cons (.var 8) (.cons (.var 16) (.cons (.var 24) (.cons (.var 33) (.cons (.var 32) .nil))))))) (.cons (.app 10 (.cons (.var 1) (.cons (.var 9) (.cons (.var 17) (.cons (.var 25) (.cons (.var 33) (.cons (.var 32) .nil))))))) .nil))))),(.int .i64 (.var 35)),(.int .i64 (.op .add (.var 34) (.lit 1))),(.int .i64 (.var 34))]):=by kernel_rfl
theorem aSe:aMk Try.prog aRn = .ok (.tuple [(.agg [(.int .i64 (.var 34)),(.int .i64 (.op .shl (.lit 1) (.var 32))),(.int .i64 (.var 35)),(.int .i64 (.app 40 (.cons (.var 0) (.cons (.var 1) (.cons (.var 2) (.cons (.var 3) (.cons (.var 4) (.cons (.var 5) (.cons (.var 6) (.cons (.var 7) (.cons (.var 8) (.cons (.var 9) (.cons (.var 10) (.cons (.var 11) (.cons (.var 12) (.cons (.var 13) (.cons (.var 14) (.cons (.var 15) (.cons (.var 16) (.cons (.var 17) (.cons (.var 18) (.cons (.var 19) (.cons (.var 20) (.cons (.var 21) (.cons (.var 22) (.cons (.var 23) (.cons (.var 24) (.cons (.var 25) (.cons (.var 26) (.cons (.var 27) (.cons (.var 28) (.cons (.var 29) (.cons (.var 30) (.cons (.var 31) (.cons (.var 32) (.cons (.lit 1) .nil)))))))))))))))))))))))))))))))))))),(.int .i64 (.var 34)),(.int .i64 (.op .shl (.lit 1) (.var 32)))]),(.bool (.lit true))]):=by kernel_rfl
set_option maxRecDepth 100000
open Go Go.RowKit Sx Wi
def aLQ (P:Program) (fs:List B):Res SV:=sL P fs
def aFB:List B:=[]
def aGw:B:=(.cmp .lt (.var 33) (.op .shl (.lit 1) (.var 32)))
def aU6:List B:=aH aGw++aFB
def aQE:List B:=aH (B.neg aGw)++aFB
theorem aVf:aLQ Try.prog aU6 = .ok (.agg [(.int .i64 (.op .add (.var 34) (.lit 1))),(.int .i64 (.var 34)),(.int .i64 (.op .add (.var 33) (.lit 1))),(.int .i64 (.var 33)),(.int .i64 (.app 91 (.cons (.var 35) (.cons (.app 10 (.cons (.var 24) (.cons (.var 26) (.cons (.var 28) (.cons (.var 30) (.cons (.var 33) (.cons (.var 32) .nil))))))) (.cons (.app 10 (.cons (.var 25) (.cons (.var 27) (.cons (.var 29) (.cons (.var 31) (.cons (.var 33) (.cons (.var 32) .nil))))))) .nil))))),(.int .i64 (.var 35)),(.int .i64 (.op .add (.var 34) (.lit 1))),(.int .i64 (.var 34))]):=by kernel_rfl
theorem aSW:aLQ Try.prog aQE = .ok (.tuple [(.agg [(.int .i64 (.var 34)),(.int .i64 (.op .mul (.lit 2) (.op .shl (.lit 1) (.var 32)))),(.int .i64 (.var 35)),(.int .i64 (.app 40 (.cons (.var 0) (.cons (.var 1) (.cons (.var 2) (.cons (.var 3) (.cons (.var 4) (.cons (.var 5) (.cons (.var 6) (.cons (.var 7) (.cons (.var 8) (.cons (.var 9) (.cons (.var 10) (.cons (.var 11) (.cons (.var 12) (.cons (.var 13) (.cons (.var 14) (.cons (.var 15) (.cons (.var 16) (.cons (.var 17) (.cons (.var 18) (.cons (.var 19) (.cons (.var 20) (.cons (.var 21) (.cons (.var 22) (.cons (.var 23) (.cons (.var 24) (.cons (.var 25) (.cons (.var 26) (.cons (.var 27) (.cons (.var 28) (.cons (.var 29) (.cons (.var 30) (.cons (.var 31) (.cons (.var 32) (.cons (.lit 2) .nil)))))))))))))))))))))))))))))))))))),(.int .i64 (.var 34)),(.int .i64 (.op .mul (.lit 2) (.op .shl (.lit 1) (.var 32))))]),(.bool (.lit true))]):=by kernel_rfl
set_option maxRecDepth 100000
open Go Go.RowKit Sx Wi
def aK2 (P:Program) (fs:List B):Res SV:=sV P fs
def aFy:List B:=[]
def aHz:B:=(.cmp .lt (.var 33) (.op .shl (.lit 1) (.var 32)))
def aRD:List B:=aH aHz++aFy
def aVh:List B:=aH (B.neg aHz)++aFy
theorem aTD:aK2 Try.prog aRD = .ok (.agg [(.int .i64 (.op .add (.var 34) (.lit 1))),(.int .i64 (.var 34)),(.int .i64 (.op .add (.var 33) (.lit 1))),(.int .i64 (.var 33)),(.int .i64 (.app 91 (.cons (.var 35) (.cons (.app 10 (.cons (.var 30) (.cons (.var 22) (.cons (.var 14) (.cons (.var 6) (.cons (.var 33) (.cons (.var 32) .nil))))))) (.cons (.app 10 (.cons (.var 31) (.cons (.var 23) (.cons (.var 15) (.cons (.var 7) (.cons (.var 33) (.cons (.var 32) .nil))))))) .nil))))),(.int .i64 (.var 35)),(.int .i64 (.op .add (.var 34) (.lit 1))),(.int .i64 (.var 34))]):=by kernel_rfl
theorem aOx:aK2 Try.prog aVh = .ok (.tuple [(.agg [(.int .i64 (.var 34)),(.int .i64 (.op .mul (.lit 3) (.op .shl (.lit 1) (.var 32)))),(.int .i64 (.var 35)),(.int .i64 (.app 40 (.cons (.var 0) (.cons (.var 1) (.cons (.var 2) (.cons (.var 3) (.cons (.var 4) (.cons (.var 5) (.cons (.var 6) (.cons (.var 7) (.cons (.var 8) (.cons (.var 9) (.cons (.var 10) (.cons (.var 11) (.cons (.var 12) (.cons (.var 13) (.cons (.var 14) (.cons (.var 15) (.cons (.var 16) (.cons (.var 17) (.cons (.var 18) (.cons (.var 19) (.cons (.var 20) (.cons (.var 21) (.cons (.var 22) (.cons (.var 23) (.cons (.var 24) (.cons (.var 25) (.cons (.var 26) (.cons (.var 27) (.cons (.var 28) (.cons (.var 29) (.cons (.var 30) (.cons (.var 31) (.cons (.var 32) (.cons (.lit 3) .nil)))))))))))))))))))))))))))))))))))),(.int .i64 (.var 34)),(.int .i64 (.op .mul (.lit 3) (.op .shl (.lit 1) (.var 32))))]),(.bool (.lit true))]):=by kernel_rfl
set_option maxRecDepth 100000
open Go Go.RowKit Sx Wi
def aLp (P:Program) (fs:List B):Res SV:=tE P fs
def aHY:List B:=[]
def aGA:B:=(.cmp .lt (.var 33) (.op .shl (.lit 1) (.var 32)))
def aSZ:List B:=aH aGA++aHY
def aTe:List B:=aH (B.neg aGA)++aHY
theorem aTp:aLp Try.prog aSZ = .ok (.agg [(.int .i64 (.op .add (.var 34) (.lit 1))),(.int .i64 (.var 34)),(.int .i64 (.op .add (.var 33) (.lit 1))),(.int .i64 (.var 33)),(.int .i64 (.app 91 (.cons (.var 35) (.cons (.app 10 (.cons (.var 6) (.cons (.var 4) (.cons (.var 2) (.cons (.var 0) (.cons (.var 33) (.cons (.var 32) .nil))))))) (.cons (.app 10 (.cons (.var 7) (.cons (.var 5) (.cons (.var 3) (.cons (.var 1) (.cons (.var 33) (.cons (.var 32) .nil))))))) .nil))))),(.int .i64 (.var 35)),(.int .i64 (.op .add (.var 34) (.lit 1))),(.int .i64 (.var 34))]):=by kernel_rfl
theorem aT5:aLp Try.prog aTe = .ok (.tuple [(.agg [(.int .i64 (.var 34)),(.int .i64 (.op .mul (.lit 4) (.op .shl (.lit 1) (.var 32)))),(.int .i64 (.var 35)),(.int .i64 (.app 40 (.cons (.var 0) (.cons (.var 1) (.cons (.var 2) (.cons (.var 3) (.cons (.var 4) (.cons (.var 5) (.cons (.var 6) (.cons (.var 7) (.cons (.var 8) (.cons (.var 9) (.cons (.var 10) (.cons (.var 11) (.cons (.var 12) (.cons (.var 13) (.cons (.var 14) (.cons (.var 15) (.cons (.var 16) (.cons (.var 17) (.cons (.var 18) (.cons (.var 19) (.cons (.var 20) (.cons (.var 21) (.cons (.var 22) (.cons (.var 23) (.cons (.var 24) (.cons (.var 25) (.cons (.var 26) (.cons (.var 27) (.cons (.var 28) (.cons (.var 29) (.cons (.var 30) (.cons (.var 31) (.cons (.var 32) (.cons (.lit 4) .nil)))))))))))))))))))))))))))))))))))),(.int .i64 (.var 34)),(.int .i64 (.op .mul (.lit 4) (.op .shl (.lit 1) (.var 32))))]),(.bool (.lit true))]):=by kernel_rfl
end Go.Proofs.Ytkpdiehbaiepaaa
