/- What is proved: what functions of this program return: each over all its ways. The conditions are the numbers' own bounds. -/
import Derived.Test.YtkpdiehbaiepaaaQNn
import Derived.Test.YtkpdiehbaiepaaaQa1
import Derived.Test.YtkpdiehbaiepaaaQa11
import Derived.Test.YtkpdiehbaiepaaaQg6
import Derived.Test.YtkpdiehbaiepaaaQa10
import Derived.Test.YtkpdiehbaiepaaaQg3
import Derived.Test.YtkpdiehbaiepaaaProg
set_option linter.unusedSimpArgs false
set_option linter.unusedVariables false
namespace Go.Proofs.Ytkpdiehbaiepaaa
open Go Go.RowKit Sx Wi
set_option maxHeartbeats 40000000 in
set_option maxRecDepth 100000 in
theorem bC5 (x0 x1 x2 x3 x4 x5 x6 x7 x8 x9 x10 x11 x12 x13 x14 x15 x16 x17 x18 x19 x20 x21 x22 x23 x24 x25 x26 x27 x28 x29 x30 x31 x32 x33 x34:Int) (b0:zzi x0) (b1:zzi x1) (b2:zzi x2) (b3:zzi x3) (b4:zzi x4) (b5:zzi x5) (b6:zzi x6) (b7:zzi x7) (b8:zzi x8) (b9:zzi x9) (b10:zzi x10) (b11:zzi x11) (b12:zzi x12) (b13:zzi x13) (b14:zzi x14) (b15:zzi x15) (b16:zzi x16) (b17:zzi x17) (b18:zzi x18) (b19:zzi x19) (b20:zzi x20) (b21:zzi x21) (b22:zzi x22) (b23:zzi x23) (b24:zzi x24) (b25:zzi x25) (b26:zzi x26) (b27:zzi x27) (b28:zzi x28) (b29:zzi x29) (b30:zzi x30) (b31:zzi x31) (b32:zzi x32) (b33:zzi x33) (b34:zzi x34) (w:World) (hw:pR GB w):dM Try.prog 23∧Calls Try.prog 23 #[(.agg #[.int .i64 x0,.int .i64 x1,.int .i64 x2,.int .i64 x3,.int .i64 x4,.int .i64 x5,.int .i64 x6,.int .i64 x7,.int .i64 x8,.int .i64 x9,.int .i64 x10,.int .i64 x11,.int .i64 x12,.int .i64 x13,.int .i64 x14,.int .i64 x15,.int .i64 x16,.int .i64 x17,.int .i64 x18,.int .i64 x19,.int .i64 x20,.int .i64 x21,.int .i64 x22,.int .i64 x23,.int .i64 x24,.int .i64 x25,.int .i64 x26,.int .i64 x27,.int .i64 x28,.int .i64 x29,.int .i64 x30,.int .i64 x31]),.int .i64 x32,.int .i64 x33,.int .i64 x34] w (fun e w'=>e = .returned (if dN x0 x2 x4 x6 x8 x10 x12 x14 x16 x18 x20 x22 x24 x26 x28 x30 x1 x3 x5 x7 x9 x11 x13 x15 x17 x19 x21 x23 x25 x27 x29 x31 x32 x33 x34 then .tuple #[.agg #[.int .i64 (aX (nZ [x0,x2,x4,x6,x8,x10,x12,x14,x16,x18,x20,x22,x24,x26,x28,x30]) x32 x33 x34),.int .i64 (aX (nZ [x1,x3,x5,x7,x9,x11,x13,x15,x17,x19,x21,x23,x25,x27,x29,x31]) x32 x33 x34)],.int .i64 0] else .tuple #[.agg #[.int .i64 0,.int .i64 0],.int .i64 1])∧Below w.heap.size w w'):=by
 refine dK (dC (ρ:=bT [x0,x1,x2,x3,x4,x5,x6,x7,x8,x9,x10,x11,x12,x13,x14,x15,x16,x17,x18,x19,x20,x21,x22,x23,x24,x25,x26,x27,x28,x29,x30,x31,x32,x33,x34]) (run:=fun fs=>eL Try.prog fs) (fun _=>rfl) fits (bL ⟨b0,b1,b2,b3,b4,b5,b6,b7,b8,b9,b10,b11,b12,b13,b14,b15,b16,b17,b18,b19,b20,b21,b22,b23,b24,b25,b26,b27,b28,b29,b30,b31,b32,b33,b34,trivial⟩) dY (fun X hX hG=>yV hX hG) rfl rfl bV ?_ w hw)
 refine aG (.cmp .le (.lit 0) (.var 34)) (fun h0=>?_) (fun h0=>?_)
 rotate_left
 ·skip
  refine aE bBr ?_
  refine⟨rfl,?_⟩;simp only[nn,cQ,cC,G,wG,cO,cN]at *;(try simp only[zzp]at *);(try simp only[Int.not_lt,Int.not_le,Int.max_le,Int.le_min]at *);rw[if_neg (by unfold dN cS dI;(try simp only[IntKind.wrap_i64]at *);omega)]<;>rfl
 refine aG (.cmp .le (.var 34) (.lit 6)) (fun h1=>?_) (fun h1=>?_)
 rotate_left
 ·skip
  refine aE bBP ?_
  refine⟨rfl,?_⟩;simp only[nn,cQ,cC,G,wG,cO,cN]at *;(try simp only[zzp]at *);(try simp only[Int.not_lt,Int.not_le,Int.max_le,Int.le_min]at *);rw[if_neg (by unfold dN cS dI;(try simp only[IntKind.wrap_i64]at *);omega)]<;>rfl
 refine aG (.cmp .le (.lit 0) (.var 32)) (fun h2=>?_) (fun h2=>?_)
 rotate_left
 ·skip
  refine aE bBp ?_
  refine⟨rfl,?_⟩;simp only[nn,cQ,cC,G,wG,cO,cN]at *;(try simp only[zzp]at *);(try simp only[Int.not_lt,Int.not_le,Int.max_le,Int.le_min]at *);rw[if_neg (by unfold dN cS dI;(try simp only[IntKind.wrap_i64]at *);omega)]<;>rfl
 refine aG (.cmp .lt (.op .shl (.lit 1) (.var 34)) (.var 32)) (fun h3=>?_) (fun h3=>?_)
 ·skip
  refine aE bDZ ?_
  refine⟨rfl,?_⟩;simp only[nn,cQ,cC,G,wG,cO,cN]at *;(try simp only[zzp]at *);(try simp only[Int.not_lt,Int.not_le,Int.max_le,Int.le_min]at *);rw[if_neg (by unfold dN cS dI;(try simp only[IntKind.wrap_i64]at *);omega)]<;>rfl
 refine aG (.cmp .le (.lit 0) (.var 33)) (fun h4=>?_) (fun h4=>?_)
 rotate_left
 ·skip
  refine aE bC4 ?_
  refine⟨rfl,?_⟩;simp only[nn,cQ,cC,G,wG,cO,cN]at *;(try simp only[zzp]at *);(try simp only[Int.not_lt,Int.not_le,Int.max_le,Int.le_min]at *);rw[if_neg (by unfold dN cS dI;(try simp only[IntKind.wrap_i64]at *);omega)]<;>rfl
 refine aG (.cmp .lt (.op .shl (.lit 1) (.var 34)) (.var 33)) (fun h5=>?_) (fun h5=>?_)
 ·skip
  refine aE bDB ?_
  refine⟨rfl,?_⟩;simp only[nn,cQ,cC,G,wG,cO,cN]at *;(try simp only[zzp]at *);(try simp only[Int.not_lt,Int.not_le,Int.max_le,Int.le_min]at *);rw[if_neg (by unfold dN cS dI;(try simp only[IntKind.wrap_i64]at *);omega)]<;>rfl
 refine aG (.cmp .lt (.lit 1099511627776) (.op .max (.op .max (.op .max (.var 0) (.wrap .i64 (.op .sub (.lit 0) (.var 0)))) (.var 1)) (.wrap .i64 (.op .sub (.lit 0) (.var 1))))) (fun h6=>?_) (fun h6=>?_)
 ·skip
  refine aE bDs ?_
  refine⟨rfl,?_⟩;simp only[nn,cQ,cC,G,wG,cO,cN]at *;(try simp only[zzp]at *);(try simp only[Int.not_lt,Int.not_le,Int.max_le,Int.le_min]at *);rw[if_neg (by unfold dN cS dI;(try simp only[IntKind.wrap_i64]at *);omega)]<;>rfl
 refine aG (.cmp .lt (.op .min (.var 0) (.var 1)) (.lit (-1099511627776))) (fun h7=>?_) (fun h7=>?_)
 ·skip
  refine aE bBj ?_
  refine⟨rfl,?_⟩;simp only[nn,cQ,cC,G,wG,cO,cN]at *;(try simp only[zzp]at *);(try simp only[Int.not_lt,Int.not_le,Int.max_le,Int.le_min]at *);rw[if_neg (by unfold dN cS dI;(try simp only[IntKind.wrap_i64]at *);omega)]<;>rfl
 refine aG (.cmp .lt (.lit 1099511627776) (.op .max (.op .max (.op .max (.var 2) (.wrap .i64 (.op .sub (.lit 0) (.var 2)))) (.var 3)) (.wrap .i64 (.op .sub (.lit 0) (.var 3))))) (fun h8=>?_) (fun h8=>?_)
 ·skip
  refine aE bAu ?_
  refine⟨rfl,?_⟩;simp only[nn,cQ,cC,G,wG,cO,cN]at *;(try simp only[zzp]at *);(try simp only[Int.not_lt,Int.not_le,Int.max_le,Int.le_min]at *);rw[if_neg (by unfold dN cS dI;(try simp only[IntKind.wrap_i64]at *);omega)]<;>rfl
 refine aG (.cmp .lt (.op .min (.var 2) (.var 3)) (.lit (-1099511627776))) (fun h9=>?_) (fun h9=>?_)
 ·skip
  refine aE bBZ ?_
  refine⟨rfl,?_⟩;simp only[nn,cQ,cC,G,wG,cO,cN]at *;(try simp only[zzp]at *);(try simp only[Int.not_lt,Int.not_le,Int.max_le,Int.le_min]at *);rw[if_neg (by unfold dN cS dI;(try simp only[IntKind.wrap_i64]at *);omega)]<;>rfl
 refine aG (.cmp .lt (.lit 1099511627776) (.op .max (.op .max (.op .max (.var 4) (.wrap .i64 (.op .sub (.lit 0) (.var 4)))) (.var 5)) (.wrap .i64 (.op .sub (.lit 0) (.var 5))))) (fun h10=>?_) (fun h10=>?_)
 ·skip
  refine aE bDf ?_
  refine⟨rfl,?_⟩;simp only[nn,cQ,cC,G,wG,cO,cN]at *;(try simp only[zzp]at *);(try simp only[Int.not_lt,Int.not_le,Int.max_le,Int.le_min]at *);rw[if_neg (by unfold dN cS dI;(try simp only[IntKind.wrap_i64]at *);omega)]<;>rfl
 refine aG (.cmp .lt (.op .min (.var 4) (.var 5)) (.lit (-1099511627776))) (fun h11=>?_) (fun h11=>?_)
 ·skip
  refine aE bBH ?_
  refine⟨rfl,?_⟩;simp only[nn,cQ,cC,G,wG,cO,cN]at *;(try simp only[zzp]at *);(try simp only[Int.not_lt,Int.not_le,Int.max_le,Int.le_min]at *);rw[if_neg (by unfold dN cS dI;(try simp only[IntKind.wrap_i64]at *);omega)]<;>rfl
 refine aG (.cmp .lt (.lit 1099511627776) (.op .max (.op .max (.op .max (.var 6) (.wrap .i64 (.op .sub (.lit 0) (.var 6)))) (.var 7)) (.wrap .i64 (.op .sub (.lit 0) (.var 7))))) (fun h12=>?_) (fun h12=>?_)
 ·skip
  refine aE bAE ?_
  refine⟨rfl,?_⟩;simp only[nn,cQ,cC,G,wG,cO,cN]at *;(try simp only[zzp]at *);(try simp only[Int.not_lt,Int.not_le,Int.max_le,Int.le_min]at *);rw[if_neg (by unfold dN cS dI;(try simp only[IntKind.wrap_i64]at *);omega)]<;>rfl
 refine aG (.cmp .lt (.op .min (.var 6) (.var 7)) (.lit (-1099511627776))) (fun h13=>?_) (fun h13=>?_)
 ·skip
  refine aE bAt ?_
  refine⟨rfl,?_⟩;simp only[nn,cQ,cC,G,wG,cO,cN]at *;(try simp only[zzp]at *);(try simp only[Int.not_lt,Int.not_le,Int.max_le,Int.le_min]at *);rw[if_neg (by unfold dN cS dI;(try simp only[IntKind.wrap_i64]at *);omega)]<;>rfl
 refine aG (.cmp .lt (.lit 1099511627776) (.op .max (.op .max (.op .max (.var 8) (.wrap .i64 (.op .sub (.lit 0) (.var 8)))) (.var 9)) (.wrap .i64 (.op .sub (.lit 0) (.var 9))))) (fun h14=>?_) (fun h14=>?_)
 ·skip
  refine aE bAr ?_
  refine⟨rfl,?_⟩;simp only[nn,cQ,cC,G,wG,cO,cN]at *;(try simp only[zzp]at *);(try simp only[Int.not_lt,Int.not_le,Int.max_le,Int.le_min]at *);rw[if_neg (by unfold dN cS dI;(try simp only[IntKind.wrap_i64]at *);omega)]<;>rfl
 refine aG (.cmp .lt (.op .min (.var 8) (.var 9)) (.lit (-1099511627776))) (fun h15=>?_) (fun h15=>?_)
 ·skip
  refine aE bCG ?_
  refine⟨rfl,?_⟩;simp only[nn,cQ,cC,G,wG,cO,cN]at *;(try simp only[zzp]at *);(try simp only[Int.not_lt,Int.not_le,Int.max_le,Int.le_min]at *);rw[if_neg (by unfold dN cS dI;(try simp only[IntKind.wrap_i64]at *);omega)]<;>rfl
 refine aG (.cmp .lt (.lit 1099511627776) (.op .max (.op .max (.op .max (.var 10) (.wrap .i64 (.op .sub (.lit 0) (.var 10)))) (.var 11)) (.wrap .i64 (.op .sub (.lit 0) (.var 11))))) (fun h16=>?_) (fun h16=>?_)
 ·skip
  refine aE bAX ?_
  refine⟨rfl,?_⟩;simp only[nn,cQ,cC,G,wG,cO,cN]at *;(try simp only[zzp]at *);(try simp only[Int.not_lt,Int.not_le,Int.max_le,Int.le_min]at *);rw[if_neg (by unfold dN cS dI;(try simp only[IntKind.wrap_i64]at *);omega)]<;>rfl
 refine aG (.cmp .lt (.op .min (.var 10) (.var 11)) (.lit (-1099511627776))) (fun h17=>?_) (fun h17=>?_)
 ·skip
  refine aE bBD ?_
  refine⟨rfl,?_⟩;simp only[nn,cQ,cC,G,wG,cO,cN]at *;(try simp only[zzp]at *);(try simp only[Int.not_lt,Int.not_le,Int.max_le,Int.le_min]at *);rw[if_neg (by unfold dN cS dI;(try simp only[IntKind.wrap_i64]at *);omega)]<;>rfl
 refine aG (.cmp .lt (.lit 1099511627776) (.op .max (.op .max (.op .max (.var 12) (.wrap .i64 (.op .sub (.lit 0) (.var 12)))) (.var 13)) (.wrap .i64 (.op .sub (.lit 0) (.var 13))))) (fun h18=>?_) (fun h18=>?_)
 ·skip
  refine aE bCh ?_
  refine⟨rfl,?_⟩;simp only[nn,cQ,cC,G,wG,cO,cN]at *;(try simp only[zzp]at *);(try simp only[Int.not_lt,Int.not_le,Int.max_le,Int.le_min]at *);rw[if_neg (by unfold dN cS dI;(try simp only[IntKind.wrap_i64]at *);omega)]<;>rfl
 refine aG (.cmp .lt (.op .min (.var 12) (.var 13)) (.lit (-1099511627776))) (fun h19=>?_) (fun h19=>?_)
 ·skip
  refine aE bBm ?_
  refine⟨rfl,?_⟩;simp only[nn,cQ,cC,G,wG,cO,cN]at *;(try simp only[zzp]at *);(try simp only[Int.not_lt,Int.not_le,Int.max_le,Int.le_min]at *);rw[if_neg (by unfold dN cS dI;(try simp only[IntKind.wrap_i64]at *);omega)]<;>rfl
 refine aG (.cmp .lt (.lit 1099511627776) (.op .max (.op .max (.op .max (.var 14) (.wrap .i64 (.op .sub (.lit 0) (.var 14)))) (.var 15)) (.wrap .i64 (.op .sub (.lit 0) (.var 15))))) (fun h20=>?_) (fun h20=>?_)
 ·skip
  refine aE bCj ?_
  refine⟨rfl,?_⟩;simp only[nn,cQ,cC,G,wG,cO,cN]at *;(try simp only[zzp]at *);(try simp only[Int.not_lt,Int.not_le,Int.max_le,Int.le_min]at *);rw[if_neg (by unfold dN cS dI;(try simp only[IntKind.wrap_i64]at *);omega)]<;>rfl
 refine aG (.cmp .lt (.op .min (.var 14) (.var 15)) (.lit (-1099511627776))) (fun h21=>?_) (fun h21=>?_)
 ·skip
  refine aE bCM ?_
  refine⟨rfl,?_⟩;simp only[nn,cQ,cC,G,wG,cO,cN]at *;(try simp only[zzp]at *);(try simp only[Int.not_lt,Int.not_le,Int.max_le,Int.le_min]at *);rw[if_neg (by unfold dN cS dI;(try simp only[IntKind.wrap_i64]at *);omega)]<;>rfl
 refine aG (.cmp .lt (.lit 1099511627776) (.op .max (.op .max (.op .max (.var 16) (.wrap .i64 (.op .sub (.lit 0) (.var 16)))) (.var 17)) (.wrap .i64 (.op .sub (.lit 0) (.var 17))))) (fun h22=>?_) (fun h22=>?_)
 ·skip
  refine aE bBi ?_
  refine⟨rfl,?_⟩;simp only[nn,cQ,cC,G,wG,cO,cN]at *;(try simp only[zzp]at *);(try simp only[Int.not_lt,Int.not_le,Int.max_le,Int.le_min]at *);rw[if_neg (by unfold dN cS dI;(try simp only[IntKind.wrap_i64]at *);omega)]<;>rfl
 refine aG (.cmp .lt (.op .min (.var 16) (.var 17)) (.lit (-1099511627776))) (fun h23=>?_) (fun h23=>?_)
 ·skip
  refine aE bCL ?_
  refine⟨rfl,?_⟩;simp only[nn,cQ,cC,G,wG,cO,cN]at *;(try simp only[zzp]at *);(try simp only[Int.not_lt,Int.not_le,Int.max_le,Int.le_min]at *);rw[if_neg (by unfold dN cS dI;(try simp only[IntKind.wrap_i64]at *);omega)]<;>rfl
 refine aG (.cmp .lt (.lit 1099511627776) (.op .max (.op .max (.op .max (.var 18) (.wrap .i64 (.op .sub (.lit 0) (.var 18)))) (.var 19)) (.wrap .i64 (.op .sub (.lit 0) (.var 19))))) (fun h24=>?_) (fun h24=>?_)
 ·skip
  refine aE bDe ?_
  refine⟨rfl,?_⟩;simp only[nn,cQ,cC,G,wG,cO,cN]at *;(try simp only[zzp]at *);(try simp only[Int.not_lt,Int.not_le,Int.max_le,Int.le_min]at *);rw[if_neg (by unfold dN cS dI;(try simp only[IntKind.wrap_i64]at *);omega)]<;>rfl
 refine aG (.cmp .lt (.op .min (.var 18) (.var 19)) (.lit (-1099511627776))) (fun h25=>?_) (fun h25=>?_)
 ·skip
  refine aE bAR ?_
  refine⟨rfl,?_⟩;simp only[nn,cQ,cC,G,wG,cO,cN]at *;(try simp only[zzp]at *);(try simp only[Int.not_lt,Int.not_le,Int.max_le,Int.le_min]at *);rw[if_neg (by unfold dN cS dI;(try simp only[IntKind.wrap_i64]at *);omega)]<;>rfl
 refine aG (.cmp .lt (.lit 1099511627776) (.op .max (.op .max (.op .max (.var 20) (.wrap .i64 (.op .sub (.lit 0) (.var 20)))) (.var 21)) (.wrap .i64 (.op .sub (.lit 0) (.var 21))))) (fun h26=>?_) (fun h26=>?_)
 ·skip
  refine aE bCF ?_
  refine⟨rfl,?_⟩;simp only[nn,cQ,cC,G,wG,cO,cN]at *;(try simp only[zzp]at *);(try simp only[Int.not_lt,Int.not_le,Int.max_le,Int.le_min]at *);rw[if_neg (by unfold dN cS dI;(try simp only[IntKind.wrap_i64]at *);omega)]<;>rfl
 refine aG (.cmp .lt (.op .min (.var 20) (.var 21)) (.lit (-1099511627776))) (fun h27=>?_) (fun h27=>?_)
 ·skip
  refine aE bDg ?_
  refine⟨rfl,?_⟩;simp only[nn,cQ,cC,G,wG,cO,cN]at *;(try simp only[zzp]at *);(try simp only[Int.not_lt,Int.not_le,Int.max_le,Int.le_min]at *);rw[if_neg (by unfold dN cS dI;(try simp only[IntKind.wrap_i64]at *);omega)]<;>rfl
 refine aG (.cmp .lt (.lit 1099511627776) (.op .max (.op .max (.op .max (.var 22) (.wrap .i64 (.op .sub (.lit 0) (.var 22)))) (.var 23)) (.wrap .i64 (.op .sub (.lit 0) (.var 23))))) (fun h28=>?_) (fun h28=>?_)
 ·skip
  refine aE bAW ?_
  refine⟨rfl,?_⟩;simp only[nn,cQ,cC,G,wG,cO,cN]at *;(try simp only[zzp]at *);(try simp only[Int.not_lt,Int.not_le,Int.max_le,Int.le_min]at *);rw[if_neg (by unfold dN cS dI;(try simp only[IntKind.wrap_i64]at *);omega)]<;>rfl
 refine aG (.cmp .lt (.op .min (.var 22) (.var 23)) (.lit (-1099511627776))) (fun h29=>?_) (fun h29=>?_)
 ·skip
  refine aE bBf ?_
  refine⟨rfl,?_⟩;simp only[nn,cQ,cC,G,wG,cO,cN]at *;(try simp only[zzp]at *);(try simp only[Int.not_lt,Int.not_le,Int.max_le,Int.le_min]at *);rw[if_neg (by unfold dN cS dI;(try simp only[IntKind.wrap_i64]at *);omega)]<;>rfl
 refine aG (.cmp .lt (.lit 1099511627776) (.op .max (.op .max (.op .max (.var 24) (.wrap .i64 (.op .sub (.lit 0) (.var 24)))) (.var 25)) (.wrap .i64 (.op .sub (.lit 0) (.var 25))))) (fun h30=>?_) (fun h30=>?_)
 ·skip
  refine aE bB0 ?_
  refine⟨rfl,?_⟩;simp only[nn,cQ,cC,G,wG,cO,cN]at *;(try simp only[zzp]at *);(try simp only[Int.not_lt,Int.not_le,Int.max_le,Int.le_min]at *);rw[if_neg (by unfold dN cS dI;(try simp only[IntKind.wrap_i64]at *);omega)]<;>rfl
 refine aG (.cmp .lt (.op .min (.var 24) (.var 25)) (.lit (-1099511627776))) (fun h31=>?_) (fun h31=>?_)
 ·skip
  refine aE bAs ?_
  refine⟨rfl,?_⟩;simp only[nn,cQ,cC,G,wG,cO,cN]at *;(try simp only[zzp]at *);(try simp only[Int.not_lt,Int.not_le,Int.max_le,Int.le_min]at *);rw[if_neg (by unfold dN cS dI;(try simp only[IntKind.wrap_i64]at *);omega)]<;>rfl
 refine aG (.cmp .lt (.lit 1099511627776) (.op .max (.op .max (.op .max (.var 26) (.wrap .i64 (.op .sub (.lit 0) (.var 26)))) (.var 27)) (.wrap .i64 (.op .sub (.lit 0) (.var 27))))) (fun h32=>?_) (fun h32=>?_)
 ·skip
  refine aE bCE ?_
  refine⟨rfl,?_⟩;simp only[nn,cQ,cC,G,wG,cO,cN]at *;(try simp only[zzp]at *);(try simp only[Int.not_lt,Int.not_le,Int.max_le,Int.le_min]at *);rw[if_neg (by unfold dN cS dI;(try simp only[IntKind.wrap_i64]at *);omega)]<;>rfl
 refine aG (.cmp .lt (.op .min (.var 26) (.var 27)) (.lit (-1099511627776))) (fun h33=>?_) (fun h33=>?_)
 ·skip
  refine aE bB5 ?_
  refine⟨rfl,?_⟩;simp only[nn,cQ,cC,G,wG,cO,cN]at *;(try simp only[zzp]at *);(try simp only[Int.not_lt,Int.not_le,Int.max_le,Int.le_min]at *);rw[if_neg (by unfold dN cS dI;(try simp only[IntKind.wrap_i64]at *);omega)]<;>rfl
 refine aG (.cmp .lt (.lit 1099511627776) (.op .max (.op .max (.op .max (.var 28) (.wrap .i64 (.op .sub (.lit 0) (.var 28)))) (.var 29)) (.wrap .i64 (.op .sub (.lit 0) (.var 29))))) (fun h34=>?_) (fun h34=>?_)
 ·skip
  refine aE bBN ?_
  refine⟨rfl,?_⟩;simp only[nn,cQ,cC,G,wG,cO,cN]at *;(try simp only[zzp]at *);(try simp only[Int.not_lt,Int.not_le,Int.max_le,Int.le_min]at *);rw[if_neg (by unfold dN cS dI;(try simp only[IntKind.wrap_i64]at *);omega)]<;>rfl
 refine aG (.cmp .lt (.op .min (.var 28) (.var 29)) (.lit (-1099511627776))) (fun h35=>?_) (fun h35=>?_)
 ·skip
  refine aE bBa ?_
  refine⟨rfl,?_⟩;simp only[nn,cQ,cC,G,wG,cO,cN]at *;(try simp only[zzp]at *);(try simp only[Int.not_lt,Int.not_le,Int.max_le,Int.le_min]at *);rw[if_neg (by unfold dN cS dI;(try simp only[IntKind.wrap_i64]at *);omega)]<;>rfl
 refine aG (.cmp .lt (.lit 1099511627776) (.op .max (.op .max (.op .max (.var 30) (.wrap .i64 (.op .sub (.lit 0) (.var 30)))) (.var 31)) (.wrap .i64 (.op .sub (.lit 0) (.var 31))))) (fun h36=>?_) (fun h36=>?_)
 ·skip
  refine aE bAA ?_
  refine⟨rfl,?_⟩;simp only[nn,cQ,cC,G,wG,cO,cN]at *;(try simp only[zzp]at *);(try simp only[Int.not_lt,Int.not_le,Int.max_le,Int.le_min]at *);rw[if_neg (by unfold dN cS dI;(try simp only[IntKind.wrap_i64]at *);omega)]<;>rfl
 refine aG (.cmp .lt (.op .min (.var 30) (.var 31)) (.lit (-1099511627776))) (fun h37=>?_) (fun h37=>?_)
 ·skip
  refine aE bC2 ?_
  refine⟨rfl,?_⟩;simp only[nn,cQ,cC,G,wG,cO,cN]at *;(try simp only[zzp]at *);(try simp only[Int.not_lt,Int.not_le,Int.max_le,Int.le_min]at *);rw[if_neg (by unfold dN cS dI;(try simp only[IntKind.wrap_i64]at *);omega)]<;>rfl
 refine aG (.cmp .le (.lit (-9223372036854775808)) cQ) (fun h38=>?_) (fun h38=>?_)
 rotate_left
 ·skip
  refine aG (.cmp .le (.lit (-9223372036854775808)) cC) (fun h39=>?_) (fun h39=>?_)
  rotate_left
  ·skip
   refine aE bCx ?_
   refine⟨rfl,?_⟩;simp only[nn,cQ,cC,G,wG,cO,cN]at *;(try simp only[zzp]at *);(try simp only[Int.not_lt,Int.not_le,Int.max_le,Int.le_min]at *);exfalso;have hk:dN x0 x2 x4 x6 x8 x10 x12 x14 x16 x18 x20 x22 x24 x26 x28 x30 x1 x3 x5 x7 x9 x11 x13 x15 x17 x19 x21 x23 x25 x27 x29 x31 x32 x33 x34:=(by unfold dN cS dI;(repeat' refine And.intro ?_ ?_)<;>omega);have ex:=eP (lK hk) rfl (mI x34 (by omega) (by omega)) _ _ _ _ _ _ _ _ rfl rfl rfl rfl rfl rfl rfl rfl;have ey:=eP (lZ hk) rfl (mI x34 (by omega) (by omega)) _ _ _ _ _ _ _ _ rfl rfl rfl rfl rfl rfl rfl rfl;have lat:∀ (l:List Int) (j:Nat),nZ l j=l.getD j 0:=(fun _ _=>rfl);simp only[lat,List.getD_cons_zero,List.getD_cons_succ]at ex ey;have bx:=iU (nZ [x0,x2,x4,x6,x8,x10,x12,x14,x16,x18,x20,x22,x24,x26,x28,x30]) x32 x33 x34;have bY:=iU (nZ [x1,x3,x5,x7,x9,x11,x13,x15,x17,x19,x21,x23,x25,x27,x29,x31]) x32 x33 x34;rw[←ex]at bx;rw[←ey]at bY;omega
  refine aG (.cmp .le cC (.lit 9223372036854775807)) (fun h40=>?_) (fun h40=>?_)
  ·skip
   refine aE bAw ?_
   refine⟨rfl,?_⟩;simp only[nn,cQ,cC,G,wG,cO,cN]at *;(try simp only[zzp]at *);(try simp only[Int.not_lt,Int.not_le,Int.max_le,Int.le_min]at *);exfalso;have hk:dN x0 x2 x4 x6 x8 x10 x12 x14 x16 x18 x20 x22 x24 x26 x28 x30 x1 x3 x5 x7 x9 x11 x13 x15 x17 x19 x21 x23 x25 x27 x29 x31 x32 x33 x34:=(by unfold dN cS dI;(repeat' refine And.intro ?_ ?_)<;>omega);have ex:=eP (lK hk) rfl (mI x34 (by omega) (by omega)) _ _ _ _ _ _ _ _ rfl rfl rfl rfl rfl rfl rfl rfl;have ey:=eP (lZ hk) rfl (mI x34 (by omega) (by omega)) _ _ _ _ _ _ _ _ rfl rfl rfl rfl rfl rfl rfl rfl;have lat:∀ (l:List Int) (j:Nat),nZ l j=l.getD j 0:=(fun _ _=>rfl);simp only[lat,List.getD_cons_zero,List.getD_cons_succ]at ex ey;have bx:=iU (nZ [x0,x2,x4,x6,x8,x10,x12,x14,x16,x18,x20,x22,x24,x26,x28,x30]) x32 x33 x34;have bY:=iU (nZ [x1,x3,x5,x7,x9,x11,x13,x15,x17,x19,x21,x23,x25,x27,x29,x31]) x32 x33 x34;rw[←ex]at bx;rw[←ey]at bY;omega
  refine aE bCD ?_
  refine⟨rfl,?_⟩;simp only[nn,cQ,cC,G,wG,cO,cN]at *;(try simp only[zzp]at *);(try simp only[Int.not_lt,Int.not_le,Int.max_le,Int.le_min]at *);exfalso;have hk:dN x0 x2 x4 x6 x8 x10 x12 x14 x16 x18 x20 x22 x24 x26 x28 x30 x1 x3 x5 x7 x9 x11 x13 x15 x17 x19 x21 x23 x25 x27 x29 x31 x32 x33 x34:=(by unfold dN cS dI;(repeat' refine And.intro ?_ ?_)<;>omega);have ex:=eP (lK hk) rfl (mI x34 (by omega) (by omega)) _ _ _ _ _ _ _ _ rfl rfl rfl rfl rfl rfl rfl rfl;have ey:=eP (lZ hk) rfl (mI x34 (by omega) (by omega)) _ _ _ _ _ _ _ _ rfl rfl rfl rfl rfl rfl rfl rfl;have lat:∀ (l:List Int) (j:Nat),nZ l j=l.getD j 0:=(fun _ _=>rfl);simp only[lat,List.getD_cons_zero,List.getD_cons_succ]at ex ey;have bx:=iU (nZ [x0,x2,x4,x6,x8,x10,x12,x14,x16,x18,x20,x22,x24,x26,x28,x30]) x32 x33 x34;have bY:=iU (nZ [x1,x3,x5,x7,x9,x11,x13,x15,x17,x19,x21,x23,x25,x27,x29,x31]) x32 x33 x34;rw[←ex]at bx;rw[←ey]at bY;omega
 refine aG (.cmp .le cQ (.lit 9223372036854775807)) (fun h39=>?_) (fun h39=>?_)
 ·skip
  refine aG (.cmp .le (.lit (-9223372036854775808)) cC) (fun h40=>?_) (fun h40=>?_)
  rotate_left
  ·skip
   refine aE bBs ?_
   refine⟨rfl,?_⟩;simp only[nn,cQ,cC,G,wG,cO,cN]at *;(try simp only[zzp]at *);(try simp only[Int.not_lt,Int.not_le,Int.max_le,Int.le_min]at *);exfalso;have hk:dN x0 x2 x4 x6 x8 x10 x12 x14 x16 x18 x20 x22 x24 x26 x28 x30 x1 x3 x5 x7 x9 x11 x13 x15 x17 x19 x21 x23 x25 x27 x29 x31 x32 x33 x34:=(by unfold dN cS dI;(repeat' refine And.intro ?_ ?_)<;>omega);have ex:=eP (lK hk) rfl (mI x34 (by omega) (by omega)) _ _ _ _ _ _ _ _ rfl rfl rfl rfl rfl rfl rfl rfl;have ey:=eP (lZ hk) rfl (mI x34 (by omega) (by omega)) _ _ _ _ _ _ _ _ rfl rfl rfl rfl rfl rfl rfl rfl;have lat:∀ (l:List Int) (j:Nat),nZ l j=l.getD j 0:=(fun _ _=>rfl);simp only[lat,List.getD_cons_zero,List.getD_cons_succ]at ex ey;have bx:=iU (nZ [x0,x2,x4,x6,x8,x10,x12,x14,x16,x18,x20,x22,x24,x26,x28,x30]) x32 x33 x34;have bY:=iU (nZ [x1,x3,x5,x7,x9,x11,x13,x15,x17,x19,x21,x23,x25,x27,x29,x31]) x32 x33 x34;rw[←ex]at bx;rw[←ey]at bY;omega
  refine aG (.cmp .le cC (.lit 9223372036854775807)) (fun h41=>?_) (fun h41=>?_)
  ·skip
   refine aE bDb ?_
   refine⟨rfl,?_⟩;simp only[nn,cQ,cC,G,wG,cO,cN]at *;(try simp only[zzp]at *);(try simp only[Int.not_lt,Int.not_le,Int.max_le,Int.le_min]at *);have hk:dN x0 x2 x4 x6 x8 x10 x12 x14 x16 x18 x20 x22 x24 x26 x28 x30 x1 x3 x5 x7 x9 x11 x13 x15 x17 x19 x21 x23 x25 x27 x29 x31 x32 x33 x34:=(by unfold dN cS dI;(repeat' refine And.intro ?_ ?_)<;>omega);have ex:=eP (lK hk) rfl (mI x34 (by omega) (by omega)) _ _ _ _ _ _ _ _ rfl rfl rfl rfl rfl rfl rfl rfl;have ey:=eP (lZ hk) rfl (mI x34 (by omega) (by omega)) _ _ _ _ _ _ _ _ rfl rfl rfl rfl rfl rfl rfl rfl;have lat:∀ (l:List Int) (j:Nat),nZ l j=l.getD j 0:=(fun _ _=>rfl);simp only[lat,List.getD_cons_zero,List.getD_cons_succ]at ex ey;rw[if_pos hk];rw[←ex,←ey]<;>rfl
  refine aE bCp ?_
  refine⟨rfl,?_⟩;simp only[nn,cQ,cC,G,wG,cO,cN]at *;(try simp only[zzp]at *);(try simp only[Int.not_lt,Int.not_le,Int.max_le,Int.le_min]at *);exfalso;have hk:dN x0 x2 x4 x6 x8 x10 x12 x14 x16 x18 x20 x22 x24 x26 x28 x30 x1 x3 x5 x7 x9 x11 x13 x15 x17 x19 x21 x23 x25 x27 x29 x31 x32 x33 x34:=(by unfold dN cS dI;(repeat' refine And.intro ?_ ?_)<;>omega);have ex:=eP (lK hk) rfl (mI x34 (by omega) (by omega)) _ _ _ _ _ _ _ _ rfl rfl rfl rfl rfl rfl rfl rfl;have ey:=eP (lZ hk) rfl (mI x34 (by omega) (by omega)) _ _ _ _ _ _ _ _ rfl rfl rfl rfl rfl rfl rfl rfl;have lat:∀ (l:List Int) (j:Nat),nZ l j=l.getD j 0:=(fun _ _=>rfl);simp only[lat,List.getD_cons_zero,List.getD_cons_succ]at ex ey;have bx:=iU (nZ [x0,x2,x4,x6,x8,x10,x12,x14,x16,x18,x20,x22,x24,x26,x28,x30]) x32 x33 x34;have bY:=iU (nZ [x1,x3,x5,x7,x9,x11,x13,x15,x17,x19,x21,x23,x25,x27,x29,x31]) x32 x33 x34;rw[←ex]at bx;rw[←ey]at bY;omega
 refine aG (.cmp .le (.lit (-9223372036854775808)) cC) (fun h40=>?_) (fun h40=>?_)
 rotate_left
 ·skip
  refine aE bCy ?_
  refine⟨rfl,?_⟩;simp only[nn,cQ,cC,G,wG,cO,cN]at *;(try simp only[zzp]at *);(try simp only[Int.not_lt,Int.not_le,Int.max_le,Int.le_min]at *);exfalso;have hk:dN x0 x2 x4 x6 x8 x10 x12 x14 x16 x18 x20 x22 x24 x26 x28 x30 x1 x3 x5 x7 x9 x11 x13 x15 x17 x19 x21 x23 x25 x27 x29 x31 x32 x33 x34:=(by unfold dN cS dI;(repeat' refine And.intro ?_ ?_)<;>omega);have ex:=eP (lK hk) rfl (mI x34 (by omega) (by omega)) _ _ _ _ _ _ _ _ rfl rfl rfl rfl rfl rfl rfl rfl;have ey:=eP (lZ hk) rfl (mI x34 (by omega) (by omega)) _ _ _ _ _ _ _ _ rfl rfl rfl rfl rfl rfl rfl rfl;have lat:∀ (l:List Int) (j:Nat),nZ l j=l.getD j 0:=(fun _ _=>rfl);simp only[lat,List.getD_cons_zero,List.getD_cons_succ]at ex ey;have bx:=iU (nZ [x0,x2,x4,x6,x8,x10,x12,x14,x16,x18,x20,x22,x24,x26,x28,x30]) x32 x33 x34;have bY:=iU (nZ [x1,x3,x5,x7,x9,x11,x13,x15,x17,x19,x21,x23,x25,x27,x29,x31]) x32 x33 x34;rw[←ex]at bx;rw[←ey]at bY;omega
 refine aG (.cmp .le cC (.lit 9223372036854775807)) (fun h41=>?_) (fun h41=>?_)
 ·skip
  refine aE bC9 ?_
  refine⟨rfl,?_⟩;simp only[nn,cQ,cC,G,wG,cO,cN]at *;(try simp only[zzp]at *);(try simp only[Int.not_lt,Int.not_le,Int.max_le,Int.le_min]at *);exfalso;have hk:dN x0 x2 x4 x6 x8 x10 x12 x14 x16 x18 x20 x22 x24 x26 x28 x30 x1 x3 x5 x7 x9 x11 x13 x15 x17 x19 x21 x23 x25 x27 x29 x31 x32 x33 x34:=(by unfold dN cS dI;(repeat' refine And.intro ?_ ?_)<;>omega);have ex:=eP (lK hk) rfl (mI x34 (by omega) (by omega)) _ _ _ _ _ _ _ _ rfl rfl rfl rfl rfl rfl rfl rfl;have ey:=eP (lZ hk) rfl (mI x34 (by omega) (by omega)) _ _ _ _ _ _ _ _ rfl rfl rfl rfl rfl rfl rfl rfl;have lat:∀ (l:List Int) (j:Nat),nZ l j=l.getD j 0:=(fun _ _=>rfl);simp only[lat,List.getD_cons_zero,List.getD_cons_succ]at ex ey;have bx:=iU (nZ [x0,x2,x4,x6,x8,x10,x12,x14,x16,x18,x20,x22,x24,x26,x28,x30]) x32 x33 x34;have bY:=iU (nZ [x1,x3,x5,x7,x9,x11,x13,x15,x17,x19,x21,x23,x25,x27,x29,x31]) x32 x33 x34;rw[←ex]at bx;rw[←ey]at bY;omega
 refine aE bCN ?_
 refine⟨rfl,?_⟩;simp only[nn,cQ,cC,G,wG,cO,cN]at *;(try simp only[zzp]at *);(try simp only[Int.not_lt,Int.not_le,Int.max_le,Int.le_min]at *);exfalso;have hk:dN x0 x2 x4 x6 x8 x10 x12 x14 x16 x18 x20 x22 x24 x26 x28 x30 x1 x3 x5 x7 x9 x11 x13 x15 x17 x19 x21 x23 x25 x27 x29 x31 x32 x33 x34:=(by unfold dN cS dI;(repeat' refine And.intro ?_ ?_)<;>omega);have ex:=eP (lK hk) rfl (mI x34 (by omega) (by omega)) _ _ _ _ _ _ _ _ rfl rfl rfl rfl rfl rfl rfl rfl;have ey:=eP (lZ hk) rfl (mI x34 (by omega) (by omega)) _ _ _ _ _ _ _ _ rfl rfl rfl rfl rfl rfl rfl rfl;have lat:∀ (l:List Int) (j:Nat),nZ l j=l.getD j 0:=(fun _ _=>rfl);simp only[lat,List.getD_cons_zero,List.getD_cons_succ]at ex ey;have bx:=iU (nZ [x0,x2,x4,x6,x8,x10,x12,x14,x16,x18,x20,x22,x24,x26,x28,x30]) x32 x33 x34;have bY:=iU (nZ [x1,x3,x5,x7,x9,x11,x13,x15,x17,x19,x21,x23,x25,x27,x29,x31]) x32 x33 x34;rw[←ex]at bx;rw[←ey]at bY;omega
theorem aOT {ρ:Nat→Int} {a0 a1 a2 a3 a4 a5 a6 a7 a8 a9 a10 a11 a12 a13 a14 a15 a16 a17 a18 a19 a20 a21 a22 a23 a24 a25 a26 a27 a28 a29 a30 a31 a32 a33 a34:E}:B.den G ρ ((.and (.cmp .le (.lit 0) a34) (.and (.cmp .le a34 (.lit 6)) (.and (.cmp .le (.lit 0) a32) (.and (.cmp .le a32 (.op .shl (.lit 1) a34)) (.and (.cmp .le (.lit 0) a33) (.and (.cmp .le a33 (.op .shl (.lit 1) a34)) (.and (.cmp .le (.lit (-1099511627776)) a0) (.and (.cmp .le a0 (.lit 1099511627776)) (.and (.cmp .le (.lit (-1099511627776)) a2) (.and (.cmp .le a2 (.lit 1099511627776)) (.and (.cmp .le (.lit (-1099511627776)) a4) (.and (.cmp .le a4 (.lit 1099511627776)) (.and (.cmp .le (.lit (-1099511627776)) a6) (.and (.cmp .le a6 (.lit 1099511627776)) (.and (.cmp .le (.lit (-1099511627776)) a8) (.and (.cmp .le a8 (.lit 1099511627776)) (.and (.cmp .le (.lit (-1099511627776)) a10) (.and (.cmp .le a10 (.lit 1099511627776)) (.and (.cmp .le (.lit (-1099511627776)) a12) (.and (.cmp .le a12 (.lit 1099511627776)) (.and (.cmp .le (.lit (-1099511627776)) a14) (.and (.cmp .le a14 (.lit 1099511627776)) (.and (.cmp .le (.lit (-1099511627776)) a16) (.and (.cmp .le a16 (.lit 1099511627776)) (.and (.cmp .le (.lit (-1099511627776)) a18) (.and (.cmp .le a18 (.lit 1099511627776)) (.and (.cmp .le (.lit (-1099511627776)) a20) (.and (.cmp .le a20 (.lit 1099511627776)) (.and (.cmp .le (.lit (-1099511627776)) a22) (.and (.cmp .le a22 (.lit 1099511627776)) (.and (.cmp .le (.lit (-1099511627776)) a24) (.and (.cmp .le a24 (.lit 1099511627776)) (.and (.cmp .le (.lit (-1099511627776)) a26) (.and (.cmp .le a26 (.lit 1099511627776)) (.and (.cmp .le (.lit (-1099511627776)) a28) (.and (.cmp .le a28 (.lit 1099511627776)) (.and (.cmp .le (.lit (-1099511627776)) a30) (.and (.cmp .le a30 (.lit 1099511627776)) (.and (.cmp .le (.lit (-1099511627776)) a1) (.and (.cmp .le a1 (.lit 1099511627776)) (.and (.cmp .le (.lit (-1099511627776)) a3) (.and (.cmp .le a3 (.lit 1099511627776)) (.and (.cmp .le (.lit (-1099511627776)) a5) (.and (.cmp .le a5 (.lit 1099511627776)) (.and (.cmp .le (.lit (-1099511627776)) a7) (.and (.cmp .le a7 (.lit 1099511627776)) (.and (.cmp .le (.lit (-1099511627776)) a9) (.and (.cmp .le a9 (.lit 1099511627776)) (.and (.cmp .le (.lit (-1099511627776)) a11) (.and (.cmp .le a11 (.lit 1099511627776)) (.and (.cmp .le (.lit (-1099511627776)) a13) (.and (.cmp .le a13 (.lit 1099511627776)) (.and (.cmp .le (.lit (-1099511627776)) a15) (.and (.cmp .le a15 (.lit 1099511627776)) (.and (.cmp .le (.lit (-1099511627776)) a17) (.and (.cmp .le a17 (.lit 1099511627776)) (.and (.cmp .le (.lit (-1099511627776)) a19) (.and (.cmp .le a19 (.lit 1099511627776)) (.and (.cmp .le (.lit (-1099511627776)) a21) (.and (.cmp .le a21 (.lit 1099511627776)) (.and (.cmp .le (.lit (-1099511627776)) a23) (.and (.cmp .le a23 (.lit 1099511627776)) (.and (.cmp .le (.lit (-1099511627776)) a25) (.and (.cmp .le a25 (.lit 1099511627776)) (.and (.cmp .le (.lit (-1099511627776)) a27) (.and (.cmp .le a27 (.lit 1099511627776)) (.and (.cmp .le (.lit (-1099511627776)) a29) (.and (.cmp .le a29 (.lit 1099511627776)) (.and (.cmp .le (.lit (-1099511627776)) a31) (.cmp .le a31 (.lit 1099511627776))))))))))))))))))))))))))))))))))))))))))))))))))))))))))))))))))))))))=true↔dN (E.den G ρ a0) (E.den G ρ a2) (E.den G ρ a4) (E.den G ρ a6) (E.den G ρ a8) (E.den G ρ a10) (E.den G ρ a12) (E.den G ρ a14) (E.den G ρ a16) (E.den G ρ a18) (E.den G ρ a20) (E.den G ρ a22) (E.den G ρ a24) (E.den G ρ a26) (E.den G ρ a28) (E.den G ρ a30) (E.den G ρ a1) (E.den G ρ a3) (E.den G ρ a5) (E.den G ρ a7) (E.den G ρ a9) (E.den G ρ a11) (E.den G ρ a13) (E.den G ρ a15) (E.den G ρ a17) (E.den G ρ a19) (E.den G ρ a21) (E.den G ρ a23) (E.den G ρ a25) (E.den G ρ a27) (E.den G ρ a29) (E.den G ρ a31) (E.den G ρ a32) (E.den G ρ a33) (E.den G ρ a34):=by
 simp only[B.den,kJ,E.den,EL.den,aC6,Bool.and_eq_true,decide_eq_true_eq];simp only[zzp];unfold dN cS dI;simp only[and_assoc]
def zW:eU:=fun X args=>
 match args with
 |[(.agg [.int .i64 a0,.int .i64 a1,.int .i64 a2,.int .i64 a3,.int .i64 a4,.int .i64 a5,.int .i64 a6,.int .i64 a7,.int .i64 a8,.int .i64 a9,.int .i64 a10,.int .i64 a11,.int .i64 a12,.int .i64 a13,.int .i64 a14,.int .i64 a15,.int .i64 a16,.int .i64 a17,.int .i64 a18,.int .i64 a19,.int .i64 a20,.int .i64 a21,.int .i64 a22,.int .i64 a23,.int .i64 a24,.int .i64 a25,.int .i64 a26,.int .i64 a27,.int .i64 a28,.int .i64 a29,.int .i64 a30,.int .i64 a31]),.int .i64 a32,.int .i64 a33,.int .i64 a34]=>if a0.fits X .i64 && a1.fits X .i64 && a2.fits X .i64 && a3.fits X .i64 && a4.fits X .i64 && a5.fits X .i64 && a6.fits X .i64 && a7.fits X .i64 && a8.fits X .i64 && a9.fits X .i64 && a10.fits X .i64 && a11.fits X .i64 && a12.fits X .i64 && a13.fits X .i64 && a14.fits X .i64 && a15.fits X .i64 && a16.fits X .i64 && a17.fits X .i64 && a18.fits X .i64 && a19.fits X .i64 && a20.fits X .i64 && a21.fits X .i64 && a22.fits X .i64 && a23.fits X .i64 && a24.fits X .i64 && a25.fits X .i64 && a26.fits X .i64 && a27.fits X .i64 && a28.fits X .i64 && a29.fits X .i64 && a30.fits X .i64 && a31.fits X .i64 && a32.fits X .i64 && a33.fits X .i64 && a34.fits X .i64 then (Res.testW X ((.and (.cmp .le (.lit 0) a34) (.and (.cmp .le a34 (.lit 6)) (.and (.cmp .le (.lit 0) a32) (.and (.cmp .le a32 (.op .shl (.lit 1) a34)) (.and (.cmp .le (.lit 0) a33) (.and (.cmp .le a33 (.op .shl (.lit 1) a34)) (.and (.cmp .le (.lit (-1099511627776)) a0) (.and (.cmp .le a0 (.lit 1099511627776)) (.and (.cmp .le (.lit (-1099511627776)) a2) (.and (.cmp .le a2 (.lit 1099511627776)) (.and (.cmp .le (.lit (-1099511627776)) a4) (.and (.cmp .le a4 (.lit 1099511627776)) (.and (.cmp .le (.lit (-1099511627776)) a6) (.and (.cmp .le a6 (.lit 1099511627776)) (.and (.cmp .le (.lit (-1099511627776)) a8) (.and (.cmp .le a8 (.lit 1099511627776)) (.and (.cmp .le (.lit (-1099511627776)) a10) (.and (.cmp .le a10 (.lit 1099511627776)) (.and (.cmp .le (.lit (-1099511627776)) a12) (.and (.cmp .le a12 (.lit 1099511627776)) (.and (.cmp .le (.lit (-1099511627776)) a14) (.and (.cmp .le a14 (.lit 1099511627776)) (.and (.cmp .le (.lit (-1099511627776)) a16) (.and (.cmp .le a16 (.lit 1099511627776)) (.and (.cmp .le (.lit (-1099511627776)) a18) (.and (.cmp .le a18 (.lit 1099511627776)) (.and (.cmp .le (.lit (-1099511627776)) a20) (.and (.cmp .le a20 (.lit 1099511627776)) (.and (.cmp .le (.lit (-1099511627776)) a22) (.and (.cmp .le a22 (.lit 1099511627776)) (.and (.cmp .le (.lit (-1099511627776)) a24) (.and (.cmp .le a24 (.lit 1099511627776)) (.and (.cmp .le (.lit (-1099511627776)) a26) (.and (.cmp .le a26 (.lit 1099511627776)) (.and (.cmp .le (.lit (-1099511627776)) a28) (.and (.cmp .le a28 (.lit 1099511627776)) (.and (.cmp .le (.lit (-1099511627776)) a30) (.and (.cmp .le a30 (.lit 1099511627776)) (.and (.cmp .le (.lit (-1099511627776)) a1) (.and (.cmp .le a1 (.lit 1099511627776)) (.and (.cmp .le (.lit (-1099511627776)) a3) (.and (.cmp .le a3 (.lit 1099511627776)) (.and (.cmp .le (.lit (-1099511627776)) a5) (.and (.cmp .le a5 (.lit 1099511627776)) (.and (.cmp .le (.lit (-1099511627776)) a7) (.and (.cmp .le a7 (.lit 1099511627776)) (.and (.cmp .le (.lit (-1099511627776)) a9) (.and (.cmp .le a9 (.lit 1099511627776)) (.and (.cmp .le (.lit (-1099511627776)) a11) (.and (.cmp .le a11 (.lit 1099511627776)) (.and (.cmp .le (.lit (-1099511627776)) a13) (.and (.cmp .le a13 (.lit 1099511627776)) (.and (.cmp .le (.lit (-1099511627776)) a15) (.and (.cmp .le a15 (.lit 1099511627776)) (.and (.cmp .le (.lit (-1099511627776)) a17) (.and (.cmp .le a17 (.lit 1099511627776)) (.and (.cmp .le (.lit (-1099511627776)) a19) (.and (.cmp .le a19 (.lit 1099511627776)) (.and (.cmp .le (.lit (-1099511627776)) a21) (.and (.cmp .le a21 (.lit 1099511627776)) (.and (.cmp .le (.lit (-1099511627776)) a23) (.and (.cmp .le a23 (.lit 1099511627776)) (.and (.cmp .le (.lit (-1099511627776)) a25) (.and (.cmp .le a25 (.lit 1099511627776)) (.and (.cmp .le (.lit (-1099511627776)) a27) (.and (.cmp .le a27 (.lit 1099511627776)) (.and (.cmp .le (.lit (-1099511627776)) a29) (.and (.cmp .le a29 (.lit 1099511627776)) (.and (.cmp .le (.lit (-1099511627776)) a31) (.cmp .le a31 (.lit 1099511627776))))))))))))))))))))))))))))))))))))))))))))))))))))))))))))))))))))))))).bind fun t=>if t then .ok (.tuple [.agg [.int .i64 (.app 11 (.cons a0 (.cons a2 (.cons a4 (.cons a6 (.cons a8 (.cons a10 (.cons a12 (.cons a14 (.cons a16 (.cons a18 (.cons a20 (.cons a22 (.cons a24 (.cons a26 (.cons a28 (.cons a30 (.cons a32 (.cons a33 (.cons a34 .nil)))))))))))))))))))),.int .i64 (.app 11 (.cons a1 (.cons a3 (.cons a5 (.cons a7 (.cons a9 (.cons a11 (.cons a13 (.cons a15 (.cons a17 (.cons a19 (.cons a21 (.cons a23 (.cons a25 (.cons a27 (.cons a29 (.cons a31 (.cons a32 (.cons a33 (.cons a34 .nil))))))))))))))))))))],.int .i64 (.lit 0)]) else .ok (.tuple [.agg [.int .i64 (.lit 0),.int .i64 (.lit 0)],.int .i64 (.lit 1)]) else .fail 200
 |_ => .fail 201
theorem bDu {X:Ctx} {ρ:Nat→Int} (hX:X.Ok ρ) (hG:X.G=G):dD Try.prog X ρ GB 23 zW:=by
 obtain⟨XG,XI,XV,XF⟩:=X
 simp only at hG
 subst hG
 intro args s h α w vals hv hw
 unfold zW at h
 split at h
 ·split at h
  ·rename_i hg
   try simp only[Bool.and_eq_true]at hg
   obtain⟨⟨⟨⟨⟨⟨⟨⟨⟨⟨⟨⟨⟨⟨⟨⟨⟨⟨⟨⟨⟨⟨⟨⟨⟨⟨⟨⟨⟨⟨⟨⟨⟨⟨g0,g1⟩,g2⟩,g3⟩,g4⟩,g5⟩,g6⟩,g7⟩,g8⟩,g9⟩,g10⟩,g11⟩,g12⟩,g13⟩,g14⟩,g15⟩,g16⟩,g17⟩,g18⟩,g19⟩,g20⟩,g21⟩,g22⟩,g23⟩,g24⟩,g25⟩,g26⟩,g27⟩,g28⟩,g29⟩,g30⟩,g31⟩,g32⟩,g33⟩,g34⟩:=hg
   obtain⟨t,ht,h⟩:=Res.bind_ok h
   have ht:=Res.testW_ok hX ht
   have k:=bC5 _ _ _ _ _ _ _ _ _ _ _ _ _ _ _ _ _ _ _ _ _ _ _ _ _ _ _ _ _ _ _ _ _ _ _ (E.fits_in hX g0) (E.fits_in hX g1) (E.fits_in hX g2) (E.fits_in hX g3) (E.fits_in hX g4) (E.fits_in hX g5) (E.fits_in hX g6) (E.fits_in hX g7) (E.fits_in hX g8) (E.fits_in hX g9) (E.fits_in hX g10) (E.fits_in hX g11) (E.fits_in hX g12) (E.fits_in hX g13) (E.fits_in hX g14) (E.fits_in hX g15) (E.fits_in hX g16) (E.fits_in hX g17) (E.fits_in hX g18) (E.fits_in hX g19) (E.fits_in hX g20) (E.fits_in hX g21) (E.fits_in hX g22) (E.fits_in hX g23) (E.fits_in hX g24) (E.fits_in hX g25) (E.fits_in hX g26) (E.fits_in hX g27) (E.fits_in hX g28) (E.fits_in hX g29) (E.fits_in hX g30) (E.fits_in hX g31) (E.fits_in hX g32) (E.fits_in hX g33) (E.fits_in hX g34) w hw
   cases t with
   |true=>
    cases h
    rw[if_pos (aOT.1 ht)]at k
    exact bC hv rfl rfl k
   |false=>
    cases h
    rw[if_neg (fun q=>by have:=aOT.2 q;rw[ht]at this;cases this)]at k
    exact bC hv rfl rfl k
  ·cases h
 ·cases h
def aZW:aZ:=dR 23 zW jY
theorem aVM {X:Ctx} {ρ:Nat→Int} (hX:X.Ok ρ) (hG:X.G=G):eO Try.prog X ρ GB aZW:=cD (bDu hX hG) (gL hX hG)
theorem aUQ {a b c d i k W D:Int} (h:eOk a b c d i k) (hW:W=Bz.sum a b c d i (p2 k)) (hD:D=256*2 ^ (3*k).toNat):Fx.near W D=eX a b c d i k:=by
 have e:=bBI k h.1.1 h.1.2
 unfold eX
 rw[if_pos h,hW,hD,←e]
 rfl
set_option maxRecDepth 100000
open Go Go.RowKit Sx Wi
def dS (P:Program) (fs:List B):Res SV:=bK G GI [zzI,zzI,zzI,zzI,zzI,zzI,zzI,zzI,zzI,zzI] fs (fun X=>gU P X GB aLJ 6000 98 [(.agg [(.int .i64 (.var 0)),(.int .i64 (.var 1)),(.int .i64 (.var 2)),(.int .i64 (.var 3)),(.int .i64 (.var 4)),(.int .i64 (.var 5)),(.int .i64 (.var 6)),(.int .i64 (.var 7))]),(.int .i64 (.var 8)),(.int .i64 (.var 9))])
def aFU:List B:=[]
def aDF:B:=(.cmp .le (.lit 0) (.var 9))
def aGL:List B:=aH aDF++aFU
def aGm:B:=(.cmp .le (.var 9) (.lit 6))
def aEm:List B:=aH aGm++aGL
def aC9:B:=(.cmp .le (.lit 0) (.var 8))
def aH0:List B:=aH aC9++aEm
def aG9:B:=(.cmp .lt (.op .shl (.lit 1) (.var 9)) (.var 8))
def aP8:List B:=aH aG9++aH0
def aIp:List B:=aH (B.neg aG9)++aH0
def aD9:B:=(.cmp .le (.var 0) (.lit 1099511627776))
def aF2:List B:=aH aD9++aIp
def aEu:B:=(.cmp .le (.lit (-1099511627776)) (.var 0))
def aDx:List B:=aH aEu++aF2
def aGd:B:=(.cmp .le (.var 1) (.lit 1099511627776))
def aGc:List B:=aH aGd++aDx
def aGk:B:=(.cmp .lt (.var 1) (.lit (-1099511627776)))
def aRg:List B:=aH aGk++aGc
def aBQ:List B:=aH (B.neg aGk)++aGc
def aBg:B:=(.cmp .le (.var 2) (.lit 1099511627776))
def aBN:List B:=aH aBg++aBQ
def aBz:B:=(.cmp .le (.lit (-1099511627776)) (.var 2))
def aBi:List B:=aH aBz++aBN
def aBw:B:=(.cmp .le (.var 3) (.lit 1099511627776))
def aBm:List B:=aH aBw++aBi
def aBq:B:=(.cmp .lt (.var 3) (.lit (-1099511627776)))
def aNc:List B:=aH aBq++aBm
def aBe:List B:=aH (B.neg aBq)++aBm
def aBO:B:=(.cmp .le (.var 4) (.lit 1099511627776))
def aBb:List B:=aH aBO++aBe
def aBp:B:=(.cmp .le (.lit (-1099511627776)) (.var 4))
def aBr:List B:=aH aBp++aBb
def aBP:B:=(.cmp .le (.var 5) (.lit 1099511627776))
def aBY:List B:=aH aBP++aBr
def aBX:B:=(.cmp .lt (.var 5) (.lit (-1099511627776)))
def aNR:List B:=aH aBX++aBY
def aBo:List B:=aH (B.neg aBX)++aBY
def aBI:B:=(.cmp .le (.var 6) (.lit 1099511627776))
def aBc:List B:=aH aBI++aBo
def aBC:B:=(.cmp .le (.lit (-1099511627776)) (.var 6))
def aBd:List B:=aH aBC++aBc
def aBD:B:=(.cmp .le (.var 7) (.lit 1099511627776))
def aB0:List B:=aH aBD++aBd
def aBk:B:=(.cmp .lt (.var 7) (.lit (-1099511627776)))
def aNz:List B:=aH aBk++aB0
def aMQ:List B:=aH (B.neg aBk)++aB0
def aMS:List B:=aH (B.neg aBD)++aBd
def aNP:List B:=aH (B.neg aBC)++aBc
def aMI:List B:=aH (B.neg aBI)++aBo
def aMz:List B:=aH (B.neg aBP)++aBr
def aNv:List B:=aH (B.neg aBp)++aBb
def aOd:List B:=aH (B.neg aBO)++aBe
def aN8:List B:=aH (B.neg aBw)++aBi
def aNJ:List B:=aH (B.neg aBz)++aBN
def aMG:List B:=aH (B.neg aBg)++aBQ
def aNF:List B:=aH (B.neg aGd)++aDx
def aM9:List B:=aH (B.neg aEu)++aF2
def aNt:List B:=aH (B.neg aD9)++aIp
def aM0:List B:=aH (B.neg aC9)++aEm
def aMR:List B:=aH (B.neg aGm)++aGL
def aMT:List B:=aH (B.neg aDF)++aFU
theorem aQd:dS Try.prog aP8 = .ok (.tuple [(.agg [(.int .i64 (.lit 0)),(.int .i64 (.lit 0))]),(.int .i64 (.lit 1))]):=by kernel_rfl
theorem aUY:dS Try.prog aRg = .ok (.tuple [(.agg [(.int .i64 (.lit 0)),(.int .i64 (.lit 0))]),(.int .i64 (.lit 1))]):=by kernel_rfl
theorem aNg:dS Try.prog aNc = .ok (.tuple [(.agg [(.int .i64 (.lit 0)),(.int .i64 (.lit 0))]),(.int .i64 (.lit 1))]):=by kernel_rfl
theorem aNC:dS Try.prog aNR = .ok (.tuple [(.agg [(.int .i64 (.lit 0)),(.int .i64 (.lit 0))]),(.int .i64 (.lit 1))]):=by kernel_rfl
theorem aNi:dS Try.prog aNz = .ok (.tuple [(.agg [(.int .i64 (.lit 0)),(.int .i64 (.lit 0))]),(.int .i64 (.lit 1))]):=by kernel_rfl
theorem aN6:dS Try.prog aMQ = .ok (.tuple [(.agg [(.int .i64 (.app 2 (.cons (.op .add (.op .add (.op .add (.op .add (.lit 0) (.op .mul (.var 0) (.op .mul (.op .mul (.op .sub (.op .shl (.lit 1) (.var 9)) (.var 8)) (.op .sub (.op .shl (.lit 1) (.var 9)) (.var 8))) (.op .sub (.op .shl (.lit 1) (.var 9)) (.var 8))))) (.op .mul (.var 2) (.op .mul (.op .mul (.op .mul (.lit 3) (.var 8)) (.op .sub (.op .shl (.lit 1) (.var 9)) (.var 8))) (.op .sub (.op .shl (.lit 1) (.var 9)) (.var 8))))) (.op .mul (.var 4) (.op .mul (.op .mul (.op .mul (.lit 3) (.var 8)) (.var 8)) (.op .sub (.op .shl (.lit 1) (.var 9)) (.var 8))))) (.op .mul (.var 6) (.op .mul (.op .mul (.var 8) (.var 8)) (.var 8)))) (.cons (.op .shl (.lit 256) (.op .mul (.lit 3) (.var 9))) .nil)))),(.int .i64 (.app 2 (.cons (.op .add (.op .add (.op .add (.op .add (.lit 0) (.op .mul (.var 1) (.op .mul (.op .mul (.op .sub (.op .shl (.lit 1) (.var 9)) (.var 8)) (.op .sub (.op .shl (.lit 1) (.var 9)) (.var 8))) (.op .sub (.op .shl (.lit 1) (.var 9)) (.var 8))))) (.op .mul (.var 3) (.op .mul (.op .mul (.op .mul (.lit 3) (.var 8)) (.op .sub (.op .shl (.lit 1) (.var 9)) (.var 8))) (.op .sub (.op .shl (.lit 1) (.var 9)) (.var 8))))) (.op .mul (.var 5) (.op .mul (.op .mul (.op .mul (.lit 3) (.var 8)) (.var 8)) (.op .sub (.op .shl (.lit 1) (.var 9)) (.var 8))))) (.op .mul (.var 7) (.op .mul (.op .mul (.var 8) (.var 8)) (.var 8)))) (.cons (.op .shl (.lit 256) (.op .mul (.lit 3) (.var 9))) .nil))))]),(.int .i64 (.lit 0))]):=by kernel_rfl
theorem aNX:dS Try.prog aMS = .ok (.tuple [(.agg [(.int .i64 (.lit 0)),(.int .i64 (.lit 0))]),(.int .i64 (.lit 1))]):=by kernel_rfl
theorem aMD:dS Try.prog aNP = .ok (.tuple [(.agg [(.int .i64 (.lit 0)),(.int .i64 (.lit 0))]),(.int .i64 (.lit 1))]):=by kernel_rfl
theorem aNO:dS Try.prog aMI = .ok (.tuple [(.agg [(.int .i64 (.lit 0)),(.int .i64 (.lit 0))]),(.int .i64 (.lit 1))]):=by kernel_rfl
theorem aNH:dS Try.prog aMz = .ok (.tuple [(.agg [(.int .i64 (.lit 0)),(.int .i64 (.lit 0))]),(.int .i64 (.lit 1))]):=by kernel_rfl
theorem aNo:dS Try.prog aNv = .ok (.tuple [(.agg [(.int .i64 (.lit 0)),(.int .i64 (.lit 0))]),(.int .i64 (.lit 1))]):=by kernel_rfl
theorem aNq:dS Try.prog aOd = .ok (.tuple [(.agg [(.int .i64 (.lit 0)),(.int .i64 (.lit 0))]),(.int .i64 (.lit 1))]):=by kernel_rfl
theorem aNM:dS Try.prog aN8 = .ok (.tuple [(.agg [(.int .i64 (.lit 0)),(.int .i64 (.lit 0))]),(.int .i64 (.lit 1))]):=by kernel_rfl
theorem aNf:dS Try.prog aNJ = .ok (.tuple [(.agg [(.int .i64 (.lit 0)),(.int .i64 (.lit 0))]),(.int .i64 (.lit 1))]):=by kernel_rfl
theorem aNw:dS Try.prog aMG = .ok (.tuple [(.agg [(.int .i64 (.lit 0)),(.int .i64 (.lit 0))]),(.int .i64 (.lit 1))]):=by kernel_rfl
theorem aMA:dS Try.prog aNF = .ok (.tuple [(.agg [(.int .i64 (.lit 0)),(.int .i64 (.lit 0))]),(.int .i64 (.lit 1))]):=by kernel_rfl
theorem aN0:dS Try.prog aM9 = .ok (.tuple [(.agg [(.int .i64 (.lit 0)),(.int .i64 (.lit 0))]),(.int .i64 (.lit 1))]):=by kernel_rfl
theorem aN7:dS Try.prog aNt = .ok (.tuple [(.agg [(.int .i64 (.lit 0)),(.int .i64 (.lit 0))]),(.int .i64 (.lit 1))]):=by kernel_rfl
theorem aOe:dS Try.prog aM0 = .ok (.tuple [(.agg [(.int .i64 (.lit 0)),(.int .i64 (.lit 0))]),(.int .i64 (.lit 1))]):=by kernel_rfl
theorem aNS:dS Try.prog aMR = .ok (.tuple [(.agg [(.int .i64 (.lit 0)),(.int .i64 (.lit 0))]),(.int .i64 (.lit 1))]):=by kernel_rfl
theorem aNG:dS Try.prog aMT = .ok (.tuple [(.agg [(.int .i64 (.lit 0)),(.int .i64 (.lit 0))]),(.int .i64 (.lit 1))]):=by kernel_rfl
end Go.Proofs.Ytkpdiehbaiepaaa
