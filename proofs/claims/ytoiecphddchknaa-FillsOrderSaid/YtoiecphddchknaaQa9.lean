/- What is proved: what functions of this program return: each over all its ways. The conditions are the numbers' own bounds. -/
import Derived.Test.YtoiecphddchknaaQNn
import Derived.Test.YtoiecphddchknaaQa2
import Derived.Test.YtoiecphddchknaaQg4
import Derived.Test.YtoiecphddchknaaQg3
import Derived.Test.YtoiecphddchknaaProg
import Derived.Test.YtoiecphddchknaaQa8
import Derived.Test.YtoiecphddchknaaQa3
set_option linter.unusedSimpArgs false
set_option linter.unusedVariables false
namespace Go.Proofs.Ytoiecphddchknaa
open Go Go.RowKit Sx Wi
set_option maxRecDepth 100000 in
theorem aLH (x0 x1 x2 x3 x4 x5:Int) (b0:(-9223372036854775808)≤x0∧x0≤9223372036854775807) (b1:(-9223372036854775808)≤x1∧x1≤9223372036854775807) (b2:(-9223372036854775808)≤x2∧x2≤9223372036854775807) (b3:(-9223372036854775808)≤x3∧x3≤9223372036854775807) (b4:(-9223372036854775808)≤x4∧x4≤9223372036854775807) (b5:(-9223372036854775808)≤x5∧x5≤9223372036854775807) (w:World) (hw:WOk GB w):eK Try.prog 35∧Calls Try.prog 35 #[(.agg #[.int .i64 x0,.int .i64 x1,.int .i64 x2,.int .i64 x3,.int .i64 x4,.int .i64 x5])] w (fun e w'=>e = .returned (if -671088640≤x0∧x0≤671088640 ∧ -671088640≤x1∧x1≤671088640 ∧ -671088640≤x2∧x2≤671088640 ∧ -671088640≤x3∧x3≤671088640 ∧ -671088640≤x4∧x4≤671088640 ∧ -671088640≤x5∧x5≤671088640 then .bool true else .bool false)∧Below w.heap.size w w'):=by
 refine iU (fO (ρ:=fF [x0,x1,x2,x3,x4,x5]) (run:=fun fs=>kX Try.prog fs) (fun _=>rfl) fits (dO ⟨b0,b1,b2,b3,b4,b5,trivial⟩) iM (fun X hX hG=>nK hX hG) rfl rfl eS ?_ w hw)
 refine bF aOH (fun h0=>?_) (fun h0=>?_)
 ·skip
  refine aH aPh ?_
  refine⟨rfl,?_⟩;simp only[nn,List.cons_append,List.nil_append,aS,ne_eq]at *;(try simp only[Bool.and_eq_true,decide_eq_true_eq]at *);first|(rw[if_pos (by omega)])|(rw[if_neg (by omega)])
 refine bF aOb (fun h1=>?_) (fun h1=>?_)
 ·skip
  refine aH aPv ?_
  refine⟨rfl,?_⟩;simp only[nn,List.cons_append,List.nil_append,aS,ne_eq]at *;(try simp only[Bool.and_eq_true,decide_eq_true_eq]at *);first|(rw[if_pos (by omega)])|(rw[if_neg (by omega)])
 refine bF aN8 (fun h2=>?_) (fun h2=>?_)
 ·skip
  refine aH aOU ?_
  refine⟨rfl,?_⟩;simp only[nn,List.cons_append,List.nil_append,aS,ne_eq]at *;(try simp only[Bool.and_eq_true,decide_eq_true_eq]at *);first|(rw[if_pos (by omega)])|(rw[if_neg (by omega)])
 refine bF aOk (fun h3=>?_) (fun h3=>?_)
 ·skip
  refine aH aOM ?_
  refine⟨rfl,?_⟩;simp only[nn,List.cons_append,List.nil_append,aS,ne_eq]at *;(try simp only[Bool.and_eq_true,decide_eq_true_eq]at *);first|(rw[if_pos (by omega)])|(rw[if_neg (by omega)])
 refine bF aPj (fun h4=>?_) (fun h4=>?_)
 ·skip
  refine aH aOm ?_
  refine⟨rfl,?_⟩;simp only[nn,List.cons_append,List.nil_append,aS,ne_eq]at *;(try simp only[Bool.and_eq_true,decide_eq_true_eq]at *);first|(rw[if_pos (by omega)])|(rw[if_neg (by omega)])
 refine bF aM5 (fun h5=>?_) (fun h5=>?_)
 ·skip
  refine aH aMu ?_
  refine⟨rfl,?_⟩;simp only[nn,List.cons_append,List.nil_append,aS,ne_eq]at *;(try simp only[Bool.and_eq_true,decide_eq_true_eq]at *);first|(rw[if_pos (by omega)])|(rw[if_neg (by omega)])
 refine aH aL0 ?_
 refine⟨rfl,?_⟩;simp only[nn,List.cons_append,List.nil_append,aS,ne_eq]at *;(try simp only[Bool.and_eq_true,decide_eq_true_eq]at *);first|(rw[if_pos (by omega)])|(rw[if_neg (by omega)])
theorem aFK {ρ:Nat→Int} {a0 a1 a2 a3 a4 a5:E}:B.den G ρ (.and (.cmp .le (.lit (-671088640)) a0) (.and (.cmp .le a0 (.lit 671088640)) (.and (.cmp .le (.lit (-671088640)) a1) (.and (.cmp .le a1 (.lit 671088640)) (.and (.cmp .le (.lit (-671088640)) a2) (.and (.cmp .le a2 (.lit 671088640)) (.and (.cmp .le (.lit (-671088640)) a3) (.and (.cmp .le a3 (.lit 671088640)) (.and (.cmp .le (.lit (-671088640)) a4) (.and (.cmp .le a4 (.lit 671088640)) (.and (.cmp .le (.lit (-671088640)) a5) (.cmp .le a5 (.lit 671088640)))))))))))))=true ↔ -671088640≤(E.den G ρ a0)∧(E.den G ρ a0)≤671088640 ∧ -671088640≤(E.den G ρ a1)∧(E.den G ρ a1)≤671088640 ∧ -671088640≤(E.den G ρ a2)∧(E.den G ρ a2)≤671088640 ∧ -671088640≤(E.den G ρ a3)∧(E.den G ρ a3)≤671088640 ∧ -671088640≤(E.den G ρ a4)∧(E.den G ρ a4)≤671088640 ∧ -671088640≤(E.den G ρ a5)∧(E.den G ρ a5)≤671088640:=by
 simp only[E.den,B.den,aBl,Bool.and_eq_true,decide_eq_true_eq]
def sA:gW:=fun X args=>
 match args with
 |[(.agg [.int .i64 a0,.int .i64 a1,.int .i64 a2,.int .i64 a3,.int .i64 a4,.int .i64 a5])]=>if a0.fits X .i64 && a1.fits X .i64 && a2.fits X .i64 && a3.fits X .i64 && a4.fits X .i64 && a5.fits X .i64 then (Res.testW X (.and (.cmp .le (.lit (-671088640)) a0) (.and (.cmp .le a0 (.lit 671088640)) (.and (.cmp .le (.lit (-671088640)) a1) (.and (.cmp .le a1 (.lit 671088640)) (.and (.cmp .le (.lit (-671088640)) a2) (.and (.cmp .le a2 (.lit 671088640)) (.and (.cmp .le (.lit (-671088640)) a3) (.and (.cmp .le a3 (.lit 671088640)) (.and (.cmp .le (.lit (-671088640)) a4) (.and (.cmp .le a4 (.lit 671088640)) (.and (.cmp .le (.lit (-671088640)) a5) (.cmp .le a5 (.lit 671088640)))))))))))))).bind fun t=>if t then .ok (.bool (.lit true)) else .ok (.bool (.lit false)) else .fail 200
 |_ => .fail 201
theorem aOJ {X:Ctx} {ρ:Nat→Int} (hX:X.Ok ρ) (hG:X.G=G):eA Try.prog X ρ GB 35 sA:=by
 obtain⟨XG,XI,XV,XF⟩:=X
 simp only at hG
 subst hG
 intro args s h α w vals hv hw
 unfold sA at h
 split at h
 ·split at h
  ·rename_i hg
   try simp only[Bool.and_eq_true]at hg
   obtain⟨⟨⟨⟨⟨g0,g1⟩,g2⟩,g3⟩,g4⟩,g5⟩:=hg
   obtain⟨t,ht,h⟩:=Res.bind_ok h
   have ht:=Res.testW_ok hX ht
   have k:=aLH _ _ _ _ _ _ (E.fits_in hX g0) (E.fits_in hX g1) (E.fits_in hX g2) (E.fits_in hX g3) (E.fits_in hX g4) (E.fits_in hX g5) w hw
   cases t with
   |true=>
    cases h
    rw[if_pos (aFK.1 ht)]at k
    exact bD hv rfl rfl k
   |false=>
    cases h
    rw[if_neg (fun q=>by have:=aFK.2 q;rw[ht]at this;cases this)]at k
    exact bD hv rfl rfl k
  ·cases h
 ·cases h
def aKm:aX:=mD 36 uO (fD 35 sA aGk)
theorem aCA {X:Ctx} {ρ:Nat→Int} (hX:X.Ok ρ) (hG:X.G=G):gF Try.prog X ρ GB aKm:=kN (aJb hX hG) (cQ (aOJ hX hG) (aDy hX hG))
def yC:List (Int × Int):=[((-9223372036854775808),9223372036854775807),((-9223372036854775808),9223372036854775807),((-9223372036854775808),9223372036854775807),((-9223372036854775808),9223372036854775807),((-9223372036854775808),9223372036854775807),((-9223372036854775808),9223372036854775807),((-2147483648),2147483647),((-2147483648),2147483647),((-2147483648),2147483647),((-2147483648),2147483647),((-2147483648),2147483647),((-2147483648),2147483647),((-9223372036854775808),9223372036854775807),(0,18446744073709551615),((-9223372036854775808),9223372036854775807),((-9223372036854775808),9223372036854775807),(0,18446744073709551615),((-9223372036854775808),9223372036854775807),((-9223372036854775808),9223372036854775807),(0,18446744073709551615),((-9223372036854775808),9223372036854775807),((-9223372036854775808),9223372036854775807),(0,18446744073709551615),((-9223372036854775808),9223372036854775807),((-9223372036854775808),9223372036854775807),(0,18446744073709551615),((-9223372036854775808),9223372036854775807),((-9223372036854775808),9223372036854775807),(0,18446744073709551615),((-9223372036854775808),9223372036854775807),((-9223372036854775808),9223372036854775807),(0,18446744073709551615),((-9223372036854775808),9223372036854775807),((-9223372036854775808),9223372036854775807),(0,18446744073709551615),((-9223372036854775808),9223372036854775807),((-9223372036854775808),9223372036854775807),(0,18446744073709551615),((-9223372036854775808),9223372036854775807),((-9223372036854775808),9223372036854775807),(0,18446744073709551615),((-9223372036854775808),9223372036854775807),((-9223372036854775808),9223372036854775807),(0,18446744073709551615),((-9223372036854775808),9223372036854775807),((-9223372036854775808),9223372036854775807),(0,18446744073709551615),((-9223372036854775808),9223372036854775807),((-9223372036854775808),9223372036854775807),(0,18446744073709551615),((-9223372036854775808),9223372036854775807),((-9223372036854775808),9223372036854775807),(0,18446744073709551615),((-9223372036854775808),9223372036854775807),((-9223372036854775808),9223372036854775807),(0,18446744073709551615),((-9223372036854775808),9223372036854775807),((-9223372036854775808),9223372036854775807),(0,18446744073709551615),((-9223372036854775808),9223372036854775807),((-9223372036854775808),9223372036854775807),((-9223372036854775808),9223372036854775807),(1,256),(1,256),(1,65536)]
def bR:B:=(.and (.and (.cmp .le (.lit (-671088640)) (.var 0)) (.and (.cmp .le (.var 0) (.lit 671088640)) (.and (.cmp .le (.lit (-671088640)) (.var 1)) (.and (.cmp .le (.var 1) (.lit 671088640)) (.and (.cmp .le (.lit (-671088640)) (.var 2)) (.and (.cmp .le (.var 2) (.lit 671088640)) (.and (.cmp .le (.lit (-671088640)) (.var 3)) (.and (.cmp .le (.var 3) (.lit 671088640)) (.and (.cmp .le (.lit (-671088640)) (.var 4)) (.and (.cmp .le (.var 4) (.lit 671088640)) (.and (.cmp .le (.lit (-671088640)) (.var 5)) (.cmp .le (.var 5) (.lit 671088640))))))))))))) (.and (.cmp .le (.lit 0) (.var 6)) (.and (.cmp .le (.var 6) (.lit 65536)) (.and (.cmp .le (.lit 0) (.var 7)) (.and (.cmp .le (.var 7) (.lit 65536)) (.and (.cmp .le (.lit 0) (.var 8)) (.and (.cmp .le (.var 8) (.lit 65536)) (.and (.cmp .le (.lit 0) (.var 9)) (.and (.cmp .le (.var 9) (.lit 65536)) (.and (.cmp .le (.lit 0) (.var 10)) (.and (.cmp .le (.var 10) (.lit 65536)) (.and (.cmp .le (.lit 0) (.var 11)) (.and (.cmp .le (.var 11) (.lit 65536)) (.and (.cmp .le (.lit 1) (.var 60)) (.and (.cmp .le (.var 60) (.lit 4)) (.and (.or (.cmp .le (.var 60) (.lit 0)) (.and (.cmp .le (.lit (-1125899906842624)) (.op .add (.op .mul (.var 12) (.lit 18446744073709551616)) (.var 13))) (.and (.cmp .le (.op .add (.op .mul (.var 12) (.lit 18446744073709551616)) (.var 13)) (.lit 1125899906842624)) (.and (.cmp .le (.lit (-1125899906842624)) (.op .add (.op .mul (.var 24) (.lit 18446744073709551616)) (.var 25))) (.and (.cmp .le (.op .add (.op .mul (.var 24) (.lit 18446744073709551616)) (.var 25)) (.lit 1125899906842624)) (.and (.cmp .le (.lit (-1125899906842624)) (.op .add (.op .mul (.var 36) (.lit 18446744073709551616)) (.var 37))) (.and (.cmp .le (.op .add (.op .mul (.var 36) (.lit 18446744073709551616)) (.var 37)) (.lit 1125899906842624)) (.and (.cmp .le (.lit (-1125899906842624)) (.op .add (.op .mul (.var 48) (.lit 18446744073709551616)) (.var 49))) (.and (.cmp .le (.op .add (.op .mul (.var 48) (.lit 18446744073709551616)) (.var 49)) (.lit 1125899906842624)) (.and (.cmp .le (.lit 1) (.var 14)) (.and (.cmp .le (.var 14) (.lit 65535)) (.and (.cmp .eq (.var 26) (.var 14)) (.and (.cmp .eq (.var 38) (.var 14)) (.cmp .eq (.var 50) (.var 14))))))))))))))) (.and (.or (.cmp .le (.var 60) (.lit 1)) (.and (.cmp .le (.lit (-1125899906842624)) (.op .add (.op .mul (.var 15) (.lit 18446744073709551616)) (.var 16))) (.and (.cmp .le (.op .add (.op .mul (.var 15) (.lit 18446744073709551616)) (.var 16)) (.lit 1125899906842624)) (.and (.cmp .le (.lit (-1125899906842624)) (.op .add (.op .mul (.var 27) (.lit 18446744073709551616)) (.var 28))) (.and (.cmp .le (.op .add (.op .mul (.var 27) (.lit 18446744073709551616)) (.var 28)) (.lit 1125899906842624)) (.and (.cmp .le (.lit (-1125899906842624)) (.op .add (.op .mul (.var 39) (.lit 18446744073709551616)) (.var 40))) (.and (.cmp .le (.op .add (.op .mul (.var 39) (.lit 18446744073709551616)) (.var 40)) (.lit 1125899906842624)) (.and (.cmp .le (.lit (-1125899906842624)) (.op .add (.op .mul (.var 51) (.lit 18446744073709551616)) (.var 52))) (.and (.cmp .le (.op .add (.op .mul (.var 51) (.lit 18446744073709551616)) (.var 52)) (.lit 1125899906842624)) (.and (.cmp .le (.lit 1) (.var 17)) (.and (.cmp .le (.var 17) (.lit 65535)) (.and (.cmp .eq (.var 29) (.var 17)) (.and (.cmp .eq (.var 41) (.var 17)) (.cmp .eq (.var 53) (.var 17))))))))))))))) (.and (.or (.cmp .le (.var 60) (.lit 2)) (.and (.cmp .le (.lit (-1125899906842624)) (.op .add (.op .mul (.var 18) (.lit 18446744073709551616)) (.var 19))) (.and (.cmp .le (.op .add (.op .mul (.var 18) (.lit 18446744073709551616)) (.var 19)) (.lit 1125899906842624)) (.and (.cmp .le (.lit (-1125899906842624)) (.op .add (.op .mul (.var 30) (.lit 18446744073709551616)) (.var 31))) (.and (.cmp .le (.op .add (.op .mul (.var 30) (.lit 18446744073709551616)) (.var 31)) (.lit 1125899906842624)) (.and (.cmp .le (.lit (-1125899906842624)) (.op .add (.op .mul (.var 42) (.lit 18446744073709551616)) (.var 43))) (.and (.cmp .le (.op .add (.op .mul (.var 42) (.lit 18446744073709551616)) (.var 43)) (.lit 1125899906842624)) (.and (.cmp .le (.lit (-1125899906842624)) (.op .add (.op .mul (.var 54) (.lit 18446744073709551616)) (.var 55))) (.and (.cmp .le (.op .add (.op .mul (.var 54) (.lit 18446744073709551616)) (.var 55)) (.lit 1125899906842624)) (.and (.cmp .le (.lit 1) (.var 20)) (.and (.cmp .le (.var 20) (.lit 65535)) (.and (.cmp .eq (.var 32) (.var 20)) (.and (.cmp .eq (.var 44) (.var 20)) (.cmp .eq (.var 56) (.var 20))))))))))))))) (.or (.cmp .le (.var 60) (.lit 3)) (.and (.cmp .le (.lit (-1125899906842624)) (.op .add (.op .mul (.var 21) (.lit 18446744073709551616)) (.var 22))) (.and (.cmp .le (.op .add (.op .mul (.var 21) (.lit 18446744073709551616)) (.var 22)) (.lit 1125899906842624)) (.and (.cmp .le (.lit (-1125899906842624)) (.op .add (.op .mul (.var 33) (.lit 18446744073709551616)) (.var 34))) (.and (.cmp .le (.op .add (.op .mul (.var 33) (.lit 18446744073709551616)) (.var 34)) (.lit 1125899906842624)) (.and (.cmp .le (.lit (-1125899906842624)) (.op .add (.op .mul (.var 45) (.lit 18446744073709551616)) (.var 46))) (.and (.cmp .le (.op .add (.op .mul (.var 45) (.lit 18446744073709551616)) (.var 46)) (.lit 1125899906842624)) (.and (.cmp .le (.lit (-1125899906842624)) (.op .add (.op .mul (.var 57) (.lit 18446744073709551616)) (.var 58))) (.and (.cmp .le (.op .add (.op .mul (.var 57) (.lit 18446744073709551616)) (.var 58)) (.lit 1125899906842624)) (.and (.cmp .le (.lit 1) (.var 23)) (.and (.cmp .le (.var 23) (.lit 65535)) (.and (.cmp .eq (.var 35) (.var 23)) (.and (.cmp .eq (.var 47) (.var 23)) (.cmp .eq (.var 59) (.var 23)))))))))))))))))))))))))))))))))
def tH:B:=(.cmp .eq (.var 64) (.op .mul (.var 62) (.var 63)))
def aAX:FunS:=⟨[(.ptr 1 0),(.agg [(.int .i64 (.var 0)),(.int .i64 (.var 1)),(.int .i64 (.var 2)),(.int .i64 (.var 3)),(.int .i64 (.var 4)),(.int .i64 (.var 5)),(.int .i32 (.var 6)),(.int .i32 (.var 7)),(.int .i32 (.var 8)),(.int .i32 (.var 9)),(.int .i32 (.var 10)),(.int .i32 (.var 11))]),(.agg [(.int .i64 (.var 12)),(.int .u64 (.var 13)),(.int .i64 (.var 14)),(.int .i64 (.var 15)),(.int .u64 (.var 16)),(.int .i64 (.var 17)),(.int .i64 (.var 18)),(.int .u64 (.var 19)),(.int .i64 (.var 20)),(.int .i64 (.var 21)),(.int .u64 (.var 22)),(.int .i64 (.var 23)),(.int .i64 (.var 24)),(.int .u64 (.var 25)),(.int .i64 (.var 26)),(.int .i64 (.var 27)),(.int .u64 (.var 28)),(.int .i64 (.var 29)),(.int .i64 (.var 30)),(.int .u64 (.var 31)),(.int .i64 (.var 32)),(.int .i64 (.var 33)),(.int .u64 (.var 34)),(.int .i64 (.var 35)),(.int .i64 (.var 36)),(.int .u64 (.var 37)),(.int .i64 (.var 38)),(.int .i64 (.var 39)),(.int .u64 (.var 40)),(.int .i64 (.var 41)),(.int .i64 (.var 42)),(.int .u64 (.var 43)),(.int .i64 (.var 44)),(.int .i64 (.var 45)),(.int .u64 (.var 46)),(.int .i64 (.var 47)),(.int .i64 (.var 48)),(.int .u64 (.var 49)),(.int .i64 (.var 50)),(.int .i64 (.var 51)),(.int .u64 (.var 52)),(.int .i64 (.var 53)),(.int .i64 (.var 54)),(.int .u64 (.var 55)),(.int .i64 (.var 56)),(.int .i64 (.var 57)),(.int .u64 (.var 58)),(.int .i64 (.var 59))]),(.int .i64 (.var 60)),(.int .i64 (.var 61))],[some ([.vec [.bool,.int .i64,.int .i32,.int .i32,.int .i32,.int .i32,.int .i32,.int .i32] (.var 65) (.var 64) true],bC+46),some ([(.int .i64 (.var 62)),(.int .i64 (.var 63)),(.own 0 (.var 64) (some (.var 64)))],78)],bR,(.int .i64 (.lit 0)),[some ([.vec [.bool,.int .i64,.int .i32,.int .i32,.int .i32,.int .i32,.int .i32,.int .i32] (.app 79 (.cons (.var 0) (.cons (.var 1) (.cons (.var 2) (.cons (.var 3) (.cons (.var 4) (.cons (.var 5) (.cons (.var 6) (.cons (.var 7) (.cons (.var 8) (.cons (.var 9) (.cons (.var 10) (.cons (.var 11) (.cons (.op .add (.op .mul (.var 12) (.lit 18446744073709551616)) (.var 13)) (.cons (.op .add (.op .mul (.var 15) (.lit 18446744073709551616)) (.var 16)) (.cons (.op .add (.op .mul (.var 18) (.lit 18446744073709551616)) (.var 19)) (.cons (.op .add (.op .mul (.var 21) (.lit 18446744073709551616)) (.var 22)) (.cons (.op .add (.op .mul (.var 24) (.lit 18446744073709551616)) (.var 25)) (.cons (.op .add (.op .mul (.var 27) (.lit 18446744073709551616)) (.var 28)) (.cons (.op .add (.op .mul (.var 30) (.lit 18446744073709551616)) (.var 31)) (.cons (.op .add (.op .mul (.var 33) (.lit 18446744073709551616)) (.var 34)) (.cons (.op .add (.op .mul (.var 36) (.lit 18446744073709551616)) (.var 37)) (.cons (.op .add (.op .mul (.var 39) (.lit 18446744073709551616)) (.var 40)) (.cons (.op .add (.op .mul (.var 42) (.lit 18446744073709551616)) (.var 43)) (.cons (.op .add (.op .mul (.var 45) (.lit 18446744073709551616)) (.var 46)) (.cons (.op .add (.op .mul (.var 48) (.lit 18446744073709551616)) (.var 49)) (.cons (.op .add (.op .mul (.var 51) (.lit 18446744073709551616)) (.var 52)) (.cons (.op .add (.op .mul (.var 54) (.lit 18446744073709551616)) (.var 55)) (.cons (.op .add (.op .mul (.var 57) (.lit 18446744073709551616)) (.var 58)) (.cons (.var 14) (.cons (.var 17) (.cons (.var 20) (.cons (.var 23) (.cons (.var 60) (.cons (.var 61) (.cons (.var 62) (.cons (.var 63) (.cons (.var 65) (.cons (.op .max (.op .max (.lit 0) (.op .fdiv (.op .sub (.op .add (.op .sub (.op .min (.op .min (.var 1) (.var 3)) (.var 5)) (.lit 128)) (.lit 256)) (.lit 1)) (.lit 256))) (.op .min (.var 63) (.op .add (.op .fdiv (.op .sub (.op .max (.op .max (.var 1) (.var 3)) (.var 5)) (.lit 128)) (.lit 256)) (.lit 1)))) .nil))))))))))))))))))))))))))))))))))))))) (.var 64) true],bC+46),some ([(.int .i64 (.var 62)),(.int .i64 (.var 63)),(.own 0 (.var 64) (some (.var 64)))],78)],(.int .i64 (.lit 1)),[some ([.vec [.bool,.int .i64,.int .i32,.int .i32,.int .i32,.int .i32,.int .i32,.int .i32] (.var 65) (.var 64) true],bC+46),some ([(.int .i64 (.var 62)),(.int .i64 (.var 63)),(.own 0 (.var 64) (some (.var 64)))],78)]⟩
def aAK (P:Program) (fs:List B):Res SV:=cV G GI yC fs fun X=>nG P X GB aKm kC 4000 26 aAX
end Go.Proofs.Ytoiecphddchknaa
set_option maxRecDepth 100000
namespace Go.Proofs.Ytoiecphddchknaa
open Go Go.RowKit Sx Wi
def dR (P:Program) (fs:List B):Res SV:=aAK P fs
def aGw:List B:=[]
def cF:B:=(.cmp .eq (.var 64) (.op .mul (.var 62) (.var 63)))
def aAG:List B:=aM cF++aGw
def cG:B:=(.cmp .lt (.var 60) (.lit 1))
def aGy:List B:=aM cG++aAG
def aAN:List B:=aM (B.neg cG)++aAG
def cK:B:=(.cmp .lt (.lit 4) (.var 60))
def aHM:List B:=aM cK++aAN
def zQ:List B:=aM (B.neg cK)++aAN
def cP:B:=(.and (.cmp .le (.lit (-671088640)) (.var 0)) (.and (.cmp .le (.var 0) (.lit 671088640)) (.and (.cmp .le (.lit (-671088640)) (.var 1)) (.and (.cmp .le (.var 1) (.lit 671088640)) (.and (.cmp .le (.lit (-671088640)) (.var 2)) (.and (.cmp .le (.var 2) (.lit 671088640)) (.and (.cmp .le (.lit (-671088640)) (.var 3)) (.and (.cmp .le (.var 3) (.lit 671088640)) (.and (.cmp .le (.lit (-671088640)) (.var 4)) (.and (.cmp .le (.var 4) (.lit 671088640)) (.and (.cmp .le (.lit (-671088640)) (.var 5)) (.cmp .le (.var 5) (.lit 671088640)))))))))))))
def aAs:List B:=aM cP++zQ
def cX:B:=(.cmp .lt (.op .min (.var 6) (.var 9)) (.lit 0))
def aHg:List B:=aM cX++aAs
def aAm:List B:=aM (B.neg cX)++aAs
def dG:B:=(.cmp .lt (.lit 65536) (.op .max (.var 6) (.var 9)))
def aHQ:List B:=aM dG++aAm
def wX:List B:=aM (B.neg dG)++aAm
def dN:B:=(.cmp .lt (.op .min (.var 7) (.var 10)) (.lit 0))
def aDZ:List B:=aM dN++wX
def xI:List B:=aM (B.neg dN)++wX
def dU:B:=(.cmp .lt (.lit 65536) (.op .max (.var 7) (.var 10)))
def aDN:List B:=aM dU++xI
def xN:List B:=aM (B.neg dU)++xI
def eE:B:=(.cmp .lt (.op .min (.var 8) (.var 11)) (.lit 0))
def aD4:List B:=aM eE++xN
def wA:List B:=aM (B.neg eE)++xN
def eQ:B:=(.cmp .lt (.lit 65536) (.op .max (.var 8) (.var 11)))
def aDL:List B:=aM eQ++wA
def xC:List B:=aM (B.neg eQ)++wA
def eG:B:=(.and (.cmp .le (.lit (-1125899906842624)) (.op .add (.op .mul (.var 12) (.lit 18446744073709551616)) (.var 13))) (.and (.cmp .le (.op .add (.op .mul (.var 12) (.lit 18446744073709551616)) (.var 13)) (.lit 1125899906842624)) (.and (.cmp .le (.lit (-1125899906842624)) (.op .add (.op .mul (.var 24) (.lit 18446744073709551616)) (.var 25))) (.and (.cmp .le (.op .add (.op .mul (.var 24) (.lit 18446744073709551616)) (.var 25)) (.lit 1125899906842624)) (.and (.cmp .le (.lit (-1125899906842624)) (.op .add (.op .mul (.var 36) (.lit 18446744073709551616)) (.var 37))) (.and (.cmp .le (.op .add (.op .mul (.var 36) (.lit 18446744073709551616)) (.var 37)) (.lit 1125899906842624)) (.and (.cmp .le (.lit (-1125899906842624)) (.op .add (.op .mul (.var 48) (.lit 18446744073709551616)) (.var 49))) (.and (.cmp .le (.op .add (.op .mul (.var 48) (.lit 18446744073709551616)) (.var 49)) (.lit 1125899906842624)) (.and (.cmp .le (.lit 1) (.var 14)) (.and (.cmp .le (.var 14) (.lit 65535)) (.and (.cmp .eq (.var 26) (.var 14)) (.and (.cmp .eq (.var 38) (.var 14)) (.cmp .eq (.var 50) (.var 14))))))))))))))
def yU:List B:=aM eG++xC
def eW:B:=(.cmp .lt (.lit 1) (.var 60))
def yJ:List B:=aM eW++yU
def fP:B:=(.and (.cmp .le (.lit (-1125899906842624)) (.op .add (.op .mul (.var 15) (.lit 18446744073709551616)) (.var 16))) (.and (.cmp .le (.op .add (.op .mul (.var 15) (.lit 18446744073709551616)) (.var 16)) (.lit 1125899906842624)) (.and (.cmp .le (.lit (-1125899906842624)) (.op .add (.op .mul (.var 27) (.lit 18446744073709551616)) (.var 28))) (.and (.cmp .le (.op .add (.op .mul (.var 27) (.lit 18446744073709551616)) (.var 28)) (.lit 1125899906842624)) (.and (.cmp .le (.lit (-1125899906842624)) (.op .add (.op .mul (.var 39) (.lit 18446744073709551616)) (.var 40))) (.and (.cmp .le (.op .add (.op .mul (.var 39) (.lit 18446744073709551616)) (.var 40)) (.lit 1125899906842624)) (.and (.cmp .le (.lit (-1125899906842624)) (.op .add (.op .mul (.var 51) (.lit 18446744073709551616)) (.var 52))) (.and (.cmp .le (.op .add (.op .mul (.var 51) (.lit 18446744073709551616)) (.var 52)) (.lit 1125899906842624)) (.and (.cmp .le (.lit 1) (.var 17)) (.and (.cmp .le (.var 17) (.lit 65535)) (.and (.cmp .eq (.var 29) (.var 17)) (.and (.cmp .eq (.var 41) (.var 17)) (.cmp .eq (.var 53) (.var 17))))))))))))))
def yG:List B:=aM fP++yJ
def gG:B:=(.cmp .lt (.lit 2) (.var 60))
def wZ:List B:=aM gG++yG
def iA:B:=(.and (.cmp .le (.lit (-1125899906842624)) (.op .add (.op .mul (.var 18) (.lit 18446744073709551616)) (.var 19))) (.and (.cmp .le (.op .add (.op .mul (.var 18) (.lit 18446744073709551616)) (.var 19)) (.lit 1125899906842624)) (.and (.cmp .le (.lit (-1125899906842624)) (.op .add (.op .mul (.var 30) (.lit 18446744073709551616)) (.var 31))) (.and (.cmp .le (.op .add (.op .mul (.var 30) (.lit 18446744073709551616)) (.var 31)) (.lit 1125899906842624)) (.and (.cmp .le (.lit (-1125899906842624)) (.op .add (.op .mul (.var 42) (.lit 18446744073709551616)) (.var 43))) (.and (.cmp .le (.op .add (.op .mul (.var 42) (.lit 18446744073709551616)) (.var 43)) (.lit 1125899906842624)) (.and (.cmp .le (.lit (-1125899906842624)) (.op .add (.op .mul (.var 54) (.lit 18446744073709551616)) (.var 55))) (.and (.cmp .le (.op .add (.op .mul (.var 54) (.lit 18446744073709551616)) (.var 55)) (.lit 1125899906842624)) (.and (.cmp .le (.lit 1) (.var 20)) (.and (.cmp .le (.var 20) (.lit 65535)) (.and (.cmp .eq (.var 32) (.var 20)) (.and (.cmp .eq (.var 44) (.var 20)) (.cmp .eq (.var 56) (.var 20))))))))))))))
def xV:List B:=aM iA++wZ
def jB:B:=(.cmp .lt (.lit 3) (.var 60))
def wQ:List B:=aM jB++xV
def kO:B:=(.and (.cmp .le (.lit (-1125899906842624)) (.op .add (.op .mul (.var 21) (.lit 18446744073709551616)) (.var 22))) (.and (.cmp .le (.op .add (.op .mul (.var 21) (.lit 18446744073709551616)) (.var 22)) (.lit 1125899906842624)) (.and (.cmp .le (.lit (-1125899906842624)) (.op .add (.op .mul (.var 33) (.lit 18446744073709551616)) (.var 34))) (.and (.cmp .le (.op .add (.op .mul (.var 33) (.lit 18446744073709551616)) (.var 34)) (.lit 1125899906842624)) (.and (.cmp .le (.lit (-1125899906842624)) (.op .add (.op .mul (.var 45) (.lit 18446744073709551616)) (.var 46))) (.and (.cmp .le (.op .add (.op .mul (.var 45) (.lit 18446744073709551616)) (.var 46)) (.lit 1125899906842624)) (.and (.cmp .le (.lit (-1125899906842624)) (.op .add (.op .mul (.var 57) (.lit 18446744073709551616)) (.var 58))) (.and (.cmp .le (.op .add (.op .mul (.var 57) (.lit 18446744073709551616)) (.var 58)) (.lit 1125899906842624)) (.and (.cmp .le (.lit 1) (.var 23)) (.and (.cmp .le (.var 23) (.lit 65535)) (.and (.cmp .eq (.var 35) (.var 23)) (.and (.cmp .eq (.var 47) (.var 23)) (.cmp .eq (.var 59) (.var 23))))))))))))))
def aDi:List B:=aM kO++wQ
def aEC:List B:=aM (B.neg kO)++wQ
def aFa:List B:=aM (B.neg jB)++xV
def aD8:List B:=aM (B.neg iA)++wZ
def aE4:List B:=aM (B.neg gG)++yG
def aDd:List B:=aM (B.neg fP)++yJ
def aEA:List B:=aM (B.neg eW)++yU
def aEG:List B:=aM (B.neg eG)++xC
def aE0:List B:=aM (B.neg cP)++zQ
end Go.Proofs.Ytoiecphddchknaa
set_option maxRecDepth 100000
namespace Go.Proofs.Ytoiecphddchknaa
open Go Go.RowKit Sx Wi
theorem aGC:dR Try.prog aGy = .ok (.tuple [(.agg []),(.bool (.lit false))]):=by kernel_rfl
theorem aHa:dR Try.prog aHM = .ok (.tuple [(.agg []),(.bool (.lit false))]):=by kernel_rfl
theorem aGO:dR Try.prog aHg = .ok (.tuple [(.agg []),(.bool (.lit false))]):=by kernel_rfl
theorem aH9:dR Try.prog aHQ = .ok (.tuple [(.agg []),(.bool (.lit false))]):=by kernel_rfl
theorem aED:dR Try.prog aDZ = .ok (.tuple [(.agg []),(.bool (.lit false))]):=by kernel_rfl
theorem aEp:dR Try.prog aDN = .ok (.tuple [(.agg []),(.bool (.lit false))]):=by kernel_rfl
theorem aEJ:dR Try.prog aD4 = .ok (.tuple [(.agg []),(.bool (.lit false))]):=by kernel_rfl
theorem aFi:dR Try.prog aDL = .ok (.tuple [(.agg []),(.bool (.lit false))]):=by kernel_rfl
theorem aDR:dR Try.prog aDi = .ok (.tuple [(.agg []),(.bool (.lit true))]):=by kernel_rfl
theorem aDt:dR Try.prog aEC = .ok (.tuple [(.agg []),(.bool (.lit false))]):=by kernel_rfl
end Go.Proofs.Ytoiecphddchknaa
set_option maxRecDepth 100000
namespace Go.Proofs.Ytoiecphddchknaa
open Go Go.RowKit Sx Wi
theorem aE2:dR Try.prog aFa = .ok (.tuple [(.agg []),(.bool (.lit true))]):=by kernel_rfl
theorem aDX:dR Try.prog aD8 = .ok (.tuple [(.agg []),(.bool (.lit false))]):=by kernel_rfl
theorem aFe:dR Try.prog aE4 = .ok (.tuple [(.agg []),(.bool (.lit true))]):=by kernel_rfl
theorem aDF:dR Try.prog aDd = .ok (.tuple [(.agg []),(.bool (.lit false))]):=by kernel_rfl
theorem aEh:dR Try.prog aEA = .ok (.tuple [(.agg []),(.bool (.lit true))]):=by kernel_rfl
theorem aDQ:dR Try.prog aEG = .ok (.tuple [(.agg []),(.bool (.lit false))]):=by kernel_rfl
theorem aEZ:dR Try.prog aE0 = .ok (.tuple [(.agg []),(.bool (.lit false))]):=by kernel_rfl
end Go.Proofs.Ytoiecphddchknaa
set_option maxRecDepth 100000
namespace Go.Proofs.Ytoiecphddchknaa
open Go Go.RowKit Sx Wi
def aFu (P:Program) (fs:List B):Res SV:=cV G GI [] fs (fun X=>nD P X GB aJ2 4000 10 [])
def aKR:List B:=[]
theorem aJh:aFu Try.prog aKR = .ok (.bool (.and (.or (.and (.lit false) (.lit false)) (.and (.lit true) (.lit true))) (.and (.cmp .eq (.lit 0) (.lit 0)) (.and (.cmp .eq (.lit 0) (.lit 0)) (.and (.cmp .eq (.lit 0) (.lit 0)) (.and (.cmp .eq (.lit 0) (.lit 0)) (.and (.cmp .eq (.lit 0) (.lit 0)) (.and (.cmp .eq (.lit 0) (.lit 0)) (.cmp .eq (.lit 0) (.lit 0)))))))))):=by kernel_rfl
end Go.Proofs.Ytoiecphddchknaa
namespace Go.Proofs.Ytoiecphddchknaa
open Go Go.RowKit Sx Wi
set_option maxRecDepth 100000 in
theorem aGQ   (w:World) (hw:WOk GB w):eK Try.prog 10∧Calls Try.prog 10 #[] w (fun e w'=>e = .returned (.bool true)∧Below w.heap.size w w'):=by
 refine iU (fO (ρ:=fF []) (run:=fun fs=>aFu Try.prog fs) (fun _=>rfl) fits (dO trivial) iM (fun X hX hG=>aBV hX hG) rfl rfl eS ?_ w hw)
 refine aH aJh ?_
 exact⟨rfl,rfl⟩
def nW:gW:=fun _ args=>
 match args with
 |[] => .ok (.bool (.lit true))
 |_ => .fail 201
theorem aKd {X:Ctx} {ρ:Nat→Int} (hX:X.Ok ρ) (hG:X.G=G):eA Try.prog X ρ GB 10 nW:=by
 obtain⟨XG,XI,XV,XF⟩:=X
 simp only at hG
 subst hG
 intro args s h α w vals hv hw
 unfold nW at h
 split at h
 ·cases h
  exact bD hv rfl rfl (aGQ w hw)
 ·cases h
set_option maxHeartbeats 8000000 in
set_option maxRecDepth 100000 in
theorem aHp (x0 x1 x2 x3 x4 x5 x6 x7 x8 x9 x10 x11 x12 x13 x14 x15 x16 x17 x18 x19 x20 x21 x22 x23 x24 x25 x26 x27 x28 x29 x30 x31 x32 x33 x34 x35 x36 x37 x38 x39 x40 x41 x42 x43 x44 x45 x46 x47 x48 x49 x50 x51 x52 x53 x54 x55 x56 x57 x58 x59 x60 x61 x62 x63 x64 C0:Int) (b0:(-9223372036854775808)≤x0∧x0≤9223372036854775807) (b1:(-9223372036854775808)≤x1∧x1≤9223372036854775807) (b2:(-9223372036854775808)≤x2∧x2≤9223372036854775807) (b3:(-9223372036854775808)≤x3∧x3≤9223372036854775807) (b4:(-9223372036854775808)≤x4∧x4≤9223372036854775807) (b5:(-9223372036854775808)≤x5∧x5≤9223372036854775807) (b6:(-2147483648)≤x6∧x6≤2147483647) (b7:(-2147483648)≤x7∧x7≤2147483647) (b8:(-2147483648)≤x8∧x8≤2147483647) (b9:(-2147483648)≤x9∧x9≤2147483647) (b10:(-2147483648)≤x10∧x10≤2147483647) (b11:(-2147483648)≤x11∧x11≤2147483647) (b12:(-9223372036854775808)≤x12∧x12≤9223372036854775807) (b13:0≤x13∧x13≤18446744073709551615) (b14:(-9223372036854775808)≤x14∧x14≤9223372036854775807) (b15:(-9223372036854775808)≤x15∧x15≤9223372036854775807) (b16:0≤x16∧x16≤18446744073709551615) (b17:(-9223372036854775808)≤x17∧x17≤9223372036854775807) (b18:(-9223372036854775808)≤x18∧x18≤9223372036854775807) (b19:0≤x19∧x19≤18446744073709551615) (b20:(-9223372036854775808)≤x20∧x20≤9223372036854775807) (b21:(-9223372036854775808)≤x21∧x21≤9223372036854775807) (b22:0≤x22∧x22≤18446744073709551615) (b23:(-9223372036854775808)≤x23∧x23≤9223372036854775807) (b24:(-9223372036854775808)≤x24∧x24≤9223372036854775807) (b25:0≤x25∧x25≤18446744073709551615) (b26:(-9223372036854775808)≤x26∧x26≤9223372036854775807) (b27:(-9223372036854775808)≤x27∧x27≤9223372036854775807) (b28:0≤x28∧x28≤18446744073709551615) (b29:(-9223372036854775808)≤x29∧x29≤9223372036854775807) (b30:(-9223372036854775808)≤x30∧x30≤9223372036854775807) (b31:0≤x31∧x31≤18446744073709551615) (b32:(-9223372036854775808)≤x32∧x32≤9223372036854775807) (b33:(-9223372036854775808)≤x33∧x33≤9223372036854775807) (b34:0≤x34∧x34≤18446744073709551615) (b35:(-9223372036854775808)≤x35∧x35≤9223372036854775807) (b36:(-9223372036854775808)≤x36∧x36≤9223372036854775807) (b37:0≤x37∧x37≤18446744073709551615) (b38:(-9223372036854775808)≤x38∧x38≤9223372036854775807) (b39:(-9223372036854775808)≤x39∧x39≤9223372036854775807) (b40:0≤x40∧x40≤18446744073709551615) (b41:(-9223372036854775808)≤x41∧x41≤9223372036854775807) (b42:(-9223372036854775808)≤x42∧x42≤9223372036854775807) (b43:0≤x43∧x43≤18446744073709551615) (b44:(-9223372036854775808)≤x44∧x44≤9223372036854775807) (b45:(-9223372036854775808)≤x45∧x45≤9223372036854775807) (b46:0≤x46∧x46≤18446744073709551615) (b47:(-9223372036854775808)≤x47∧x47≤9223372036854775807) (b48:(-9223372036854775808)≤x48∧x48≤9223372036854775807) (b49:0≤x49∧x49≤18446744073709551615) (b50:(-9223372036854775808)≤x50∧x50≤9223372036854775807) (b51:(-9223372036854775808)≤x51∧x51≤9223372036854775807) (b52:0≤x52∧x52≤18446744073709551615) (b53:(-9223372036854775808)≤x53∧x53≤9223372036854775807) (b54:(-9223372036854775808)≤x54∧x54≤9223372036854775807) (b55:0≤x55∧x55≤18446744073709551615) (b56:(-9223372036854775808)≤x56∧x56≤9223372036854775807) (b57:(-9223372036854775808)≤x57∧x57≤9223372036854775807) (b58:0≤x58∧x58≤18446744073709551615) (b59:(-9223372036854775808)≤x59∧x59≤9223372036854775807) (b60:(-9223372036854775808)≤x60∧x60≤9223372036854775807) (b61:(-9223372036854775808)≤x61∧x61≤9223372036854775807) (b62:1≤x62∧x62≤256) (b63:1≤x63∧x63≤256) (b64:1≤x64∧x64≤65536) (hp:tH.den G (fF (([x0,x1,x2,x3,x4,x5,x6,x7,x8,x9,x10,x11,x12,x13,x14,x15,x16,x17,x18,x19,x20,x21,x22,x23,x24,x25,x26,x27,x28,x29,x30,x31,x32,x33,x34,x35,x36,x37,x38,x39,x40,x41,x42,x43,x44,x45,x46,x47,x48,x49,x50,x51,x52,x53,x54,x55,x56,x57,x58,x59,x60,x61,x62,x63,x64]:List Int)++[C0]))=true):mE Try.prog G GB 26 aAX (fF (([x0,x1,x2,x3,x4,x5,x6,x7,x8,x9,x10,x11,x12,x13,x14,x15,x16,x17,x18,x19,x20,x21,x22,x23,x24,x25,x26,x27,x28,x29,x30,x31,x32,x33,x34,x35,x36,x37,x38,x39,x40,x41,x42,x43,x44,x45,x46,x47,x48,x49,x50,x51,x52,x53,x54,x55,x56,x57,x58,x59,x60,x61,x62,x63,x64]:List Int)++[C0])):=by
 refine jC (lp:=kC) (run:=aAK Try.prog) (fun _=>rfl) fits (fM (by exact⟨b0,b1,b2,b3,b4,b5,b6,b7,b8,b9,b10,b11,b12,b13,b14,b15,b16,b17,b18,b19,b20,b21,b22,b23,b24,b25,b26,b27,b28,b29,b30,b31,b32,b33,b34,b35,b36,b37,b38,b39,b40,b41,b42,b43,b44,b45,b46,b47,b48,b49,b50,b51,b52,b53,b54,b55,b56,b57,b58,b59,b60,b61,b62,b63,b64,trivial⟩)) iM (fun X hX hG=>aCA hX hG) (fun X hX hG fn c hf hc=>iB) rfl ?_
 clear b0 b1 b2 b3 b4 b5 b6 b7 b8 b9 b10 b11 b12 b13 b14 b15 b16 b17 b18 b19 b20 b21 b22 b23 b24 b25 b26 b27 b28 b29 b30 b31 b32 b33 b34 b35 b36 b37 b38 b39 b40 b41 b42 b43 b44 b45 b46 b47 b48 b49 b50 b51 b52 b53 b54 b55 b56 b57 b58 b59 b60 b61 b62 b63 b64
 refine aL cF (fun h0=>?_) (fun h0=>?_)
 rotate_left
 ·skip
  refine bE ?_
  unfold cF at h0;exact absurd hp (by unfold tH;rw[h0];decide)
 refine aL cG (fun h1=>?_) (fun h1=>?_)
 ·skip
  refine aH aGC ?_
  unfold cF at h0;unfold cG at h1;clear hp h0;simp only[fI];refine⟨?_,trivial⟩;show B.den G _ bR=_;unfold bR;rw[Bool.eq_false_iff];intro h;first|(simp only[nn,List.cons_append,List.nil_append,Bool.or_eq_true,aS,ne_eq]at *;omega)|(have hl:=Bool.eq_false_iff.1 h1;clear h1;refine hl ?_;clear hl;simp only[nn,List.cons_append,List.nil_append,Bool.or_eq_true,aS,ne_eq]at *;omega)
 refine aL cK (fun h2=>?_) (fun h2=>?_)
 ·skip
  refine aH aHa ?_
  unfold cF at h0;unfold cG at h1;unfold cK at h2;clear hp h0;simp only[fI];refine⟨?_,trivial⟩;show B.den G _ bR=_;unfold bR;rw[Bool.eq_false_iff];intro h;first|(simp only[nn,List.cons_append,List.nil_append,Bool.or_eq_true,aS,ne_eq]at *;omega)|(have hl:=Bool.eq_false_iff.1 h2;clear h2;refine hl ?_;clear hl;simp only[nn,List.cons_append,List.nil_append,Bool.or_eq_true,aS,ne_eq]at *;omega)
 refine aL cP (fun h3=>?_) (fun h3=>?_)
 rotate_left
 ·skip
  refine aH aEZ ?_
  unfold cF at h0;unfold cG at h1;unfold cK at h2;unfold cP at h3;clear hp h0;simp only[fI];refine⟨?_,trivial⟩;show B.den G _ bR=_;unfold bR;rw[Bool.eq_false_iff];intro h;first|(simp only[nn,List.cons_append,List.nil_append,Bool.or_eq_true,aS,ne_eq]at *;omega)|(have hl:=Bool.eq_false_iff.1 h3;clear h3;refine hl ?_;clear hl;simp only[nn,List.cons_append,List.nil_append,Bool.or_eq_true,aS,ne_eq]at *;omega)
 refine aL cX (fun h4=>?_) (fun h4=>?_)
 ·skip
  refine aH aGO ?_
  unfold cF at h0;unfold cG at h1;unfold cK at h2;unfold cP at h3;unfold cX at h4;clear hp h0;simp only[fI];refine⟨?_,trivial⟩;show B.den G _ bR=_;unfold bR;rw[Bool.eq_false_iff];intro h;first|(simp only[nn,List.cons_append,List.nil_append,Bool.or_eq_true,aS,ne_eq]at *;omega)|(have hl:=Bool.eq_false_iff.1 h4;clear h4;refine hl ?_;clear hl;simp only[nn,List.cons_append,List.nil_append,Bool.or_eq_true,aS,ne_eq]at *;omega)
 refine aL dG (fun h5=>?_) (fun h5=>?_)
 ·skip
  refine aH aH9 ?_
  unfold cF at h0;unfold cG at h1;unfold cK at h2;unfold cP at h3;unfold cX at h4;unfold dG at h5;clear hp h0;simp only[fI];refine⟨?_,trivial⟩;show B.den G _ bR=_;unfold bR;rw[Bool.eq_false_iff];intro h;first|(simp only[nn,List.cons_append,List.nil_append,Bool.or_eq_true,aS,ne_eq]at *;omega)|(have hl:=Bool.eq_false_iff.1 h5;clear h5;refine hl ?_;clear hl;simp only[nn,List.cons_append,List.nil_append,Bool.or_eq_true,aS,ne_eq]at *;omega)
 refine aL dN (fun h6=>?_) (fun h6=>?_)
 ·skip
  refine aH aED ?_
  unfold cF at h0;unfold cG at h1;unfold cK at h2;unfold cP at h3;unfold cX at h4;unfold dG at h5;unfold dN at h6;clear hp h0;simp only[fI];refine⟨?_,trivial⟩;show B.den G _ bR=_;unfold bR;rw[Bool.eq_false_iff];intro h;first|(simp only[nn,List.cons_append,List.nil_append,Bool.or_eq_true,aS,ne_eq]at *;omega)|(have hl:=Bool.eq_false_iff.1 h6;clear h6;refine hl ?_;clear hl;simp only[nn,List.cons_append,List.nil_append,Bool.or_eq_true,aS,ne_eq]at *;omega)
 refine aL dU (fun h7=>?_) (fun h7=>?_)
 ·skip
  refine aH aEp ?_
  unfold cF at h0;unfold cG at h1;unfold cK at h2;unfold cP at h3;unfold cX at h4;unfold dG at h5;unfold dN at h6;unfold dU at h7;clear hp h0;simp only[fI];refine⟨?_,trivial⟩;show B.den G _ bR=_;unfold bR;rw[Bool.eq_false_iff];intro h;first|(simp only[nn,List.cons_append,List.nil_append,Bool.or_eq_true,aS,ne_eq]at *;omega)|(have hl:=Bool.eq_false_iff.1 h7;clear h7;refine hl ?_;clear hl;simp only[nn,List.cons_append,List.nil_append,Bool.or_eq_true,aS,ne_eq]at *;omega)
 refine aL eE (fun h8=>?_) (fun h8=>?_)
 ·skip
  refine aH aEJ ?_
  unfold cF at h0;unfold cG at h1;unfold cK at h2;unfold cP at h3;unfold cX at h4;unfold dG at h5;unfold dN at h6;unfold dU at h7;unfold eE at h8;clear hp h0;simp only[fI];refine⟨?_,trivial⟩;show B.den G _ bR=_;unfold bR;rw[Bool.eq_false_iff];intro h;first|(simp only[nn,List.cons_append,List.nil_append,Bool.or_eq_true,aS,ne_eq]at *;omega)|(have hl:=Bool.eq_false_iff.1 h8;clear h8;refine hl ?_;clear hl;simp only[nn,List.cons_append,List.nil_append,Bool.or_eq_true,aS,ne_eq]at *;omega)
 refine aL eQ (fun h9=>?_) (fun h9=>?_)
 ·skip
  refine aH aFi ?_
  unfold cF at h0;unfold cG at h1;unfold cK at h2;unfold cP at h3;unfold cX at h4;unfold dG at h5;unfold dN at h6;unfold dU at h7;unfold eE at h8;unfold eQ at h9;clear hp h0;simp only[fI];refine⟨?_,trivial⟩;show B.den G _ bR=_;unfold bR;rw[Bool.eq_false_iff];intro h;first|(simp only[nn,List.cons_append,List.nil_append,Bool.or_eq_true,aS,ne_eq]at *;omega)|(have hl:=Bool.eq_false_iff.1 h9;clear h9;refine hl ?_;clear hl;simp only[nn,List.cons_append,List.nil_append,Bool.or_eq_true,aS,ne_eq]at *;omega)
 refine aL eG (fun h10=>?_) (fun h10=>?_)
 rotate_left
 ·skip
  refine aH aDQ ?_
  unfold cF at h0;unfold cG at h1;unfold cK at h2;unfold cP at h3;unfold cX at h4;unfold dG at h5;unfold dN at h6;unfold dU at h7;unfold eE at h8;unfold eQ at h9;unfold eG at h10;clear hp h0;simp only[fI];refine⟨?_,trivial⟩;show B.den G _ bR=_;unfold bR;rw[Bool.eq_false_iff];intro h;first|(simp only[nn,List.cons_append,List.nil_append,Bool.or_eq_true,aS,ne_eq]at *;omega)|(have hl:=Bool.eq_false_iff.1 h10;clear h10;refine hl ?_;clear hl;simp only[nn,List.cons_append,List.nil_append,Bool.or_eq_true,aS,ne_eq]at *;omega)
 refine aL eW (fun h11=>?_) (fun h11=>?_)
 rotate_left
 ·skip
  refine aH aEh ?_
  unfold cF at h0;unfold cG at h1;unfold cK at h2;unfold cP at h3;unfold cX at h4;unfold dG at h5;unfold dN at h6;unfold dU at h7;unfold eE at h8;unfold eQ at h9;unfold eG at h10;unfold eW at h11;clear hp h0;simp only[fI];refine⟨?_,trivial⟩;show B.den G _ bR=_;unfold bR;simp only[nn,List.cons_append,List.nil_append,Bool.or_eq_true,aS,ne_eq]at *;(try simp only[Bool.and_eq_true,decide_eq_true_eq]at *);omega
 refine aL fP (fun h12=>?_) (fun h12=>?_)
 rotate_left
 ·skip
  refine aH aDF ?_
  unfold cF at h0;unfold cG at h1;unfold cK at h2;unfold cP at h3;unfold cX at h4;unfold dG at h5;unfold dN at h6;unfold dU at h7;unfold eE at h8;unfold eQ at h9;unfold eG at h10;unfold eW at h11;unfold fP at h12;clear hp h0;simp only[fI];refine⟨?_,trivial⟩;show B.den G _ bR=_;unfold bR;rw[Bool.eq_false_iff];intro h;first|(simp only[nn,List.cons_append,List.nil_append,Bool.or_eq_true,aS,ne_eq]at *;omega)|(have hl:=Bool.eq_false_iff.1 h12;clear h12;refine hl ?_;clear hl;simp only[nn,List.cons_append,List.nil_append,Bool.or_eq_true,aS,ne_eq]at *;omega)
 refine aL gG (fun h13=>?_) (fun h13=>?_)
 rotate_left
 ·skip
  refine aH aFe ?_
  unfold cF at h0;unfold cG at h1;unfold cK at h2;unfold cP at h3;unfold cX at h4;unfold dG at h5;unfold dN at h6;unfold dU at h7;unfold eE at h8;unfold eQ at h9;unfold eG at h10;unfold eW at h11;unfold fP at h12;unfold gG at h13;clear hp h0;simp only[fI];refine⟨?_,trivial⟩;show B.den G _ bR=_;unfold bR;simp only[nn,List.cons_append,List.nil_append,Bool.or_eq_true,aS,ne_eq]at *;(try simp only[Bool.and_eq_true,decide_eq_true_eq]at *);omega
 refine aL iA (fun h14=>?_) (fun h14=>?_)
 rotate_left
 ·skip
  refine aH aDX ?_
  unfold cF at h0;unfold cG at h1;unfold cK at h2;unfold cP at h3;unfold cX at h4;unfold dG at h5;unfold dN at h6;unfold dU at h7;unfold eE at h8;unfold eQ at h9;unfold eG at h10;unfold eW at h11;unfold fP at h12;unfold gG at h13;unfold iA at h14;clear hp h0;simp only[fI];refine⟨?_,trivial⟩;show B.den G _ bR=_;unfold bR;rw[Bool.eq_false_iff];intro h;first|(simp only[nn,List.cons_append,List.nil_append,Bool.or_eq_true,aS,ne_eq]at *;omega)|(have hl:=Bool.eq_false_iff.1 h14;clear h14;refine hl ?_;clear hl;simp only[nn,List.cons_append,List.nil_append,Bool.or_eq_true,aS,ne_eq]at *;omega)
 refine aL jB (fun h15=>?_) (fun h15=>?_)
 rotate_left
 ·skip
  refine aH aE2 ?_
  unfold cF at h0;unfold cG at h1;unfold cK at h2;unfold cP at h3;unfold cX at h4;unfold dG at h5;unfold dN at h6;unfold dU at h7;unfold eE at h8;unfold eQ at h9;unfold eG at h10;unfold eW at h11;unfold fP at h12;unfold gG at h13;unfold iA at h14;unfold jB at h15;clear hp h0;simp only[fI];refine⟨?_,trivial⟩;show B.den G _ bR=_;unfold bR;simp only[nn,List.cons_append,List.nil_append,Bool.or_eq_true,aS,ne_eq]at *;(try simp only[Bool.and_eq_true,decide_eq_true_eq]at *);omega
 refine aL kO (fun h16=>?_) (fun h16=>?_)
 ·skip
  refine aH aDR ?_
  unfold cF at h0;unfold cG at h1;unfold cK at h2;unfold cP at h3;unfold cX at h4;unfold dG at h5;unfold dN at h6;unfold dU at h7;unfold eE at h8;unfold eQ at h9;unfold eG at h10;unfold eW at h11;unfold fP at h12;unfold gG at h13;unfold iA at h14;unfold jB at h15;unfold kO at h16;clear hp h0;simp only[fI];refine⟨?_,trivial⟩;show B.den G _ bR=_;unfold bR;simp only[nn,List.cons_append,List.nil_append,Bool.or_eq_true,aS,ne_eq]at *;(try simp only[Bool.and_eq_true,decide_eq_true_eq]at *);omega
 refine aH aDt ?_
 unfold cF at h0;unfold cG at h1;unfold cK at h2;unfold cP at h3;unfold cX at h4;unfold dG at h5;unfold dN at h6;unfold dU at h7;unfold eE at h8;unfold eQ at h9;unfold eG at h10;unfold eW at h11;unfold fP at h12;unfold gG at h13;unfold iA at h14;unfold jB at h15;unfold kO at h16;clear hp h0;simp only[fI];refine⟨?_,trivial⟩;show B.den G _ bR=_;unfold bR;rw[Bool.eq_false_iff];intro h;first|(simp only[nn,List.cons_append,List.nil_append,Bool.or_eq_true,aS,ne_eq]at *;omega)|(have hl:=Bool.eq_false_iff.1 h16;clear h16;refine hl ?_;clear hl;simp only[nn,List.cons_append,List.nil_append,Bool.or_eq_true,aS,ne_eq]at *;omega)
def uY:Ctx→List SV→aI→Res (SV × aI):=kH GB yC 1 tH aAX
theorem aKo {X:Ctx} {ρ:Nat→Int} (hX:X.Ok ρ) (hG:X.G=G):nX Try.prog X ρ GB 26 uY:=by
 obtain⟨XG,XI,XV,XF⟩:=X
 simp only at hG
 subst hG
 refine jN hX ?_
 intro xs ls hw hl hp
 unfold yC at hw
 obtain⟨x0,y0,e0,b0,h0⟩:=aF hw
 obtain⟨x1,y1,e1,b1,h1⟩:=aF h0
 obtain⟨x2,y2,e2,b2,h2⟩:=aF h1
 obtain⟨x3,y3,e3,b3,h3⟩:=aF h2
 obtain⟨x4,y4,e4,b4,h4⟩:=aF h3
 obtain⟨x5,y5,e5,b5,h5⟩:=aF h4
 obtain⟨x6,y6,e6,b6,h6⟩:=aF h5
 obtain⟨x7,y7,e7,b7,h7⟩:=aF h6
 obtain⟨x8,y8,e8,b8,h8⟩:=aF h7
 obtain⟨x9,y9,e9,b9,h9⟩:=aF h8
 obtain⟨x10,y10,e10,b10,h10⟩:=aF h9
 obtain⟨x11,y11,e11,b11,h11⟩:=aF h10
 obtain⟨x12,y12,e12,b12,h12⟩:=aF h11
 obtain⟨x13,y13,e13,b13,h13⟩:=aF h12
 obtain⟨x14,y14,e14,b14,h14⟩:=aF h13
 obtain⟨x15,y15,e15,b15,h15⟩:=aF h14
 obtain⟨x16,y16,e16,b16,h16⟩:=aF h15
 obtain⟨x17,y17,e17,b17,h17⟩:=aF h16
 obtain⟨x18,y18,e18,b18,h18⟩:=aF h17
 obtain⟨x19,y19,e19,b19,h19⟩:=aF h18
 obtain⟨x20,y20,e20,b20,h20⟩:=aF h19
 obtain⟨x21,y21,e21,b21,h21⟩:=aF h20
 obtain⟨x22,y22,e22,b22,h22⟩:=aF h21
 obtain⟨x23,y23,e23,b23,h23⟩:=aF h22
 obtain⟨x24,y24,e24,b24,h24⟩:=aF h23
 obtain⟨x25,y25,e25,b25,h25⟩:=aF h24
 obtain⟨x26,y26,e26,b26,h26⟩:=aF h25
 obtain⟨x27,y27,e27,b27,h27⟩:=aF h26
 obtain⟨x28,y28,e28,b28,h28⟩:=aF h27
 obtain⟨x29,y29,e29,b29,h29⟩:=aF h28
 obtain⟨x30,y30,e30,b30,h30⟩:=aF h29
 obtain⟨x31,y31,e31,b31,h31⟩:=aF h30
 obtain⟨x32,y32,e32,b32,h32⟩:=aF h31
 obtain⟨x33,y33,e33,b33,h33⟩:=aF h32
 obtain⟨x34,y34,e34,b34,h34⟩:=aF h33
 obtain⟨x35,y35,e35,b35,h35⟩:=aF h34
 obtain⟨x36,y36,e36,b36,h36⟩:=aF h35
 obtain⟨x37,y37,e37,b37,h37⟩:=aF h36
 obtain⟨x38,y38,e38,b38,h38⟩:=aF h37
 obtain⟨x39,y39,e39,b39,h39⟩:=aF h38
 obtain⟨x40,y40,e40,b40,h40⟩:=aF h39
 obtain⟨x41,y41,e41,b41,h41⟩:=aF h40
 obtain⟨x42,y42,e42,b42,h42⟩:=aF h41
 obtain⟨x43,y43,e43,b43,h43⟩:=aF h42
 obtain⟨x44,y44,e44,b44,h44⟩:=aF h43
 obtain⟨x45,y45,e45,b45,h45⟩:=aF h44
 obtain⟨x46,y46,e46,b46,h46⟩:=aF h45
 obtain⟨x47,y47,e47,b47,h47⟩:=aF h46
 obtain⟨x48,y48,e48,b48,h48⟩:=aF h47
 obtain⟨x49,y49,e49,b49,h49⟩:=aF h48
 obtain⟨x50,y50,e50,b50,h50⟩:=aF h49
 obtain⟨x51,y51,e51,b51,h51⟩:=aF h50
 obtain⟨x52,y52,e52,b52,h52⟩:=aF h51
 obtain⟨x53,y53,e53,b53,h53⟩:=aF h52
 obtain⟨x54,y54,e54,b54,h54⟩:=aF h53
 obtain⟨x55,y55,e55,b55,h55⟩:=aF h54
 obtain⟨x56,y56,e56,b56,h56⟩:=aF h55
 obtain⟨x57,y57,e57,b57,h57⟩:=aF h56
 obtain⟨x58,y58,e58,b58,h58⟩:=aF h57
 obtain⟨x59,y59,e59,b59,h59⟩:=aF h58
 obtain⟨x60,y60,e60,b60,h60⟩:=aF h59
 obtain⟨x61,y61,e61,b61,h61⟩:=aF h60
 obtain⟨x62,y62,e62,b62,h62⟩:=aF h61
 obtain⟨x63,y63,e63,b63,h63⟩:=aF h62
 obtain⟨x64,y64,e64,b64,h64⟩:=aF h63
 have e65:=wL h64
 subst e65 e64 e63 e62 e61 e60 e59 e58 e57 e56 e55 e54 e53 e52 e51 e50 e49 e48 e47 e46 e45 e44 e43 e42 e41 e40 e39 e38 e37 e36 e35 e34 e33 e32 e31 e30 e29 e28 e27 e26 e25 e24 e23 e22 e21 e20 e19 e18 e17 e16 e15 e14 e13 e12 e11 e10 e9 e8 e7 e6 e5 e4 e3 e2 e1 e0
 obtain⟨l0,rfl⟩:=aD7 hl
 exact aHp x0 x1 x2 x3 x4 x5 x6 x7 x8 x9 x10 x11 x12 x13 x14 x15 x16 x17 x18 x19 x20 x21 x22 x23 x24 x25 x26 x27 x28 x29 x30 x31 x32 x33 x34 x35 x36 x37 x38 x39 x40 x41 x42 x43 x44 x45 x46 x47 x48 x49 x50 x51 x52 x53 x54 x55 x56 x57 x58 x59 x60 x61 x62 x63 x64 l0 b0 b1 b2 b3 b4 b5 b6 b7 b8 b9 b10 b11 b12 b13 b14 b15 b16 b17 b18 b19 b20 b21 b22 b23 b24 b25 b26 b27 b28 b29 b30 b31 b32 b33 b34 b35 b36 b37 b38 b39 b40 b41 b42 b43 b44 b45 b46 b47 b48 b49 b50 b51 b52 b53 b54 b55 b56 b57 b58 b59 b60 b61 b62 b63 b64 hp
def vD:aX:=fD 10 nW (mD 26 uY aKm)
theorem pM {X:Ctx} {ρ:Nat→Int} (hX:X.Ok ρ) (hG:X.G=G):gF Try.prog X ρ GB vD:=cQ (aKd hX hG) (kN (aKo hX hG) (aCA hX hG))
end Go.Proofs.Ytoiecphddchknaa
