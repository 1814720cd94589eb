/- What is proved: the run of a function over its ways,and what is known on each. No condition. -/
import Derived.Test.YtdldallkeheciaaQa9
import Derived.Test.YtdldallkeheciaaQNn
import Derived.Test.YtdldallkeheciaaQa1
import Derived.Test.YtdldallkeheciaaQg4
import Derived.Test.YtdldallkeheciaaProg
import Derived.Test.YtdldallkeheciaaQa7
import Derived.Test.YtdldallkeheciaaQg3
import Derived.Test.YtdldallkeheciaaQa8
set_option linter.unusedSimpArgs false
set_option linter.unusedVariables false
set_option maxRecDepth 100000
namespace Go.Proofs.Ytdldallkeheciaa
open Go Go.RowKit Sx Wi Lk
def aUG (P:Program) (fs:List B):Res SV:=aGq P fs
def aP0:List B:=[]
def aDg:B:=(.and (.and (.cmp .eq (.var 0) (.lit 1)) (.and (.cmp .lt (.lit 0) (.var 1)) (.and (.cmp .le (.var 1) (.lit 4)) (.and (B.neg (.or (.and (.cmp .lt (.lit 0) (.var 1)) (.cmp .le (.app 82 (.cons (.var 9) (.cons (.lit 0) (.cons (.lit 1) .nil)))) (.app 82 (.cons (.var 9) (.cons (.lit 0) (.cons (.lit 0) .nil)))))) (.or (.and (.cmp .lt (.lit 1) (.var 1)) (.cmp .le (.app 82 (.cons (.var 9) (.cons (.lit 1) (.cons (.lit 1) .nil)))) (.app 82 (.cons (.var 9) (.cons (.lit 1) (.cons (.lit 0) .nil)))))) (.or (.and (.cmp .lt (.lit 2) (.var 1)) (.cmp .le (.app 82 (.cons (.var 9) (.cons (.lit 2) (.cons (.lit 1) .nil)))) (.app 82 (.cons (.var 9) (.cons (.lit 2) (.cons (.lit 0) .nil)))))) (.and (.cmp .lt (.lit 3) (.var 1)) (.cmp .le (.app 82 (.cons (.var 9) (.cons (.lit 3) (.cons (.lit 1) .nil)))) (.app 82 (.cons (.var 9) (.cons (.lit 3) (.cons (.lit 0) .nil)))))))))) (.and (.cmp .lt (.lit 0) (.var 2)) (.and (.cmp .le (.var 2) (.lit 4)) (.and (B.neg (.or (.and (.cmp .lt (.lit 0) (.var 2)) (.cmp .lt (.app 82 (.cons (.var 10) (.cons (.lit 0) (.cons (.lit 1) .nil)))) (.app 82 (.cons (.var 10) (.cons (.lit 0) (.cons (.lit 0) .nil)))))) (.or (.and (.cmp .lt (.lit 1) (.var 2)) (.cmp .lt (.app 82 (.cons (.var 10) (.cons (.lit 1) (.cons (.lit 1) .nil)))) (.app 82 (.cons (.var 10) (.cons (.lit 1) (.cons (.lit 0) .nil)))))) (.or (.and (.cmp .lt (.lit 2) (.var 2)) (.cmp .lt (.app 82 (.cons (.var 10) (.cons (.lit 2) (.cons (.lit 1) .nil)))) (.app 82 (.cons (.var 10) (.cons (.lit 2) (.cons (.lit 0) .nil)))))) (.and (.cmp .lt (.lit 3) (.var 2)) (.cmp .lt (.app 82 (.cons (.var 10) (.cons (.lit 3) (.cons (.lit 1) .nil)))) (.app 82 (.cons (.var 10) (.cons (.lit 3) (.cons (.lit 0) .nil)))))))))) (.and (.cmp .eq (.var 3) (.var 1)) (.and (B.neg (.or (.and (.cmp .lt (.lit 0) (.var 3)) (.or (.cmp .lt (.app 83 (.cons (.var 11) (.cons (.lit 0) (.cons (.lit 0) .nil)))) (.lit 1)) (.cmp .lt (.lit 256) (.app 83 (.cons (.var 11) (.cons (.lit 0) (.cons (.lit 0) .nil))))))) (.or (.and (.cmp .lt (.lit 1) (.var 3)) (.or (.cmp .lt (.app 83 (.cons (.var 11) (.cons (.lit 1) (.cons (.lit 0) .nil)))) (.lit 1)) (.cmp .lt (.lit 256) (.app 83 (.cons (.var 11) (.cons (.lit 1) (.cons (.lit 0) .nil))))))) (.or (.and (.cmp .lt (.lit 2) (.var 3)) (.or (.cmp .lt (.app 83 (.cons (.var 11) (.cons (.lit 2) (.cons (.lit 0) .nil)))) (.lit 1)) (.cmp .lt (.lit 256) (.app 83 (.cons (.var 11) (.cons (.lit 2) (.cons (.lit 0) .nil))))))) (.or (.and (.cmp .lt (.lit 3) (.var 3)) (.or (.cmp .lt (.app 83 (.cons (.var 11) (.cons (.lit 3) (.cons (.lit 0) .nil)))) (.lit 1)) (.cmp .lt (.lit 256) (.app 83 (.cons (.var 11) (.cons (.lit 3) (.cons (.lit 0) .nil))))))) (.or (.and (.cmp .lt (.lit 4) (.var 3)) (.or (.cmp .lt (.app 83 (.cons (.var 11) (.cons (.lit 4) (.cons (.lit 0) .nil)))) (.lit 1)) (.cmp .lt (.lit 256) (.app 83 (.cons (.var 11) (.cons (.lit 4) (.cons (.lit 0) .nil))))))) (.or (.and (.cmp .lt (.lit 5) (.var 3)) (.or (.cmp .lt (.app 83 (.cons (.var 11) (.cons (.lit 5) (.cons (.lit 0) .nil)))) (.lit 1)) (.cmp .lt (.lit 256) (.app 83 (.cons (.var 11) (.cons (.lit 5) (.cons (.lit 0) .nil))))))) (.or (.and (.cmp .lt (.lit 6) (.var 3)) (.or (.cmp .lt (.app 83 (.cons (.var 11) (.cons (.lit 6) (.cons (.lit 0) .nil)))) (.lit 1)) (.cmp .lt (.lit 256) (.app 83 (.cons (.var 11) (.cons (.lit 6) (.cons (.lit 0) .nil))))))) (.and (.cmp .lt (.lit 7) (.var 3)) (.or (.cmp .lt (.app 83 (.cons (.var 11) (.cons (.lit 7) (.cons (.lit 0) .nil)))) (.lit 1)) (.cmp .lt (.lit 256) (.app 83 (.cons (.var 11) (.cons (.lit 7) (.cons (.lit 0) .nil))))))))))))))) (.and (.or (.cmp .eq (.var 4) (.lit 1)) (.or (.cmp .eq (.var 4) (.lit 2)) (.or (.cmp .eq (.var 4) (.lit 4)) (.or (.cmp .eq (.var 4) (.lit 8)) (.or (.cmp .eq (.var 4) (.lit 12)) (.cmp .eq (.var 4) (.lit 16))))))) (.and (.or (.cmp .eq (.var 5) (.lit 0)) (.cmp .eq (.var 5) (.var 1))) (.or (.cmp .eq (.var 6) (.lit 0)) (.cmp .eq (.var 6) (.var 2)))))))))))))) (.and (.cmp .le (.app 63 (.cons (.var 2) (.cons (.var 4) (.cons (.var 11) (.cons (.var 3) .nil))))) (.lit 524288)) (.cmp .le (.app 63 (.cons (.var 2) (.cons (.var 4) (.cons (.var 11) (.cons (.var 3) .nil))))) (.op .mul (.lit 8) (.var 7)))))
def aNJ:List B:=aJ aDg++aP0
def aBN:B:=(.cmp .eq (.var 8) (.var 1))
def aQJ:List B:=aJ aBN++aNJ
def aCC:B:=(.cmp .eq (.var 3) (.var 1))
def aQP:List B:=aJ aCC++aQJ
def aDf:B:=(.cmp .le (.lit 1) (.var 1))
def aPV:List B:=aJ aDf++aQP
def aBG:B:=(.cmp .le (.var 1) (.lit 4))
def aPT:List B:=aJ aBG++aPV
def aCZ:B:=(.cmp .le (.lit 1) (.var 2))
def aQF:List B:=aJ aCZ++aPT
def aBO:B:=(.cmp .le (.var 2) (.lit 4))
def aRj:List B:=aJ aBO++aQF
def aCM:B:=(.cmp .le (.lit 1) (.var 4))
def aRQ:List B:=aJ aCM++aRj
def aCK:B:=(.cmp .le (.var 4) (.lit 16))
def aRz:List B:=aJ aCK++aRQ
def aDc:B:=(.cmp .eq (.var 3) (.var 8))
def aLw:List B:=aJ aDc++aRz
def aAf:B:=(.cmp .le (.lit 1) (.var 3))
def aKs:List B:=aJ aAf++aLw
def aAi:B:=(.cmp .le (.var 3) (.lit 4))
def aMW:List B:=aJ aAi++aKs
def yY:B:=(.cmp .le (.lit 1) (.var 8))
def aKe:List B:=aJ yY++aMW
def xM:B:=(.cmp .le (.var 8) (.lit 4))
def aJg:List B:=aJ xM++aKe
def aAw:B:=(.cmp .eq (.var 6) (.var 2))
def aK8:List B:=aJ aAw++aJg
def zM:B:=(.cmp .lt (.lit 0) (.var 6))
def aMo:List B:=aJ zM++aK8
theorem aMD:aUG Try.prog aMo = .ok (.tuple [(.agg []),(.bool (.lit true))]):=by kernel_rfl
end Go.Proofs.Ytdldallkeheciaa
set_option maxRecDepth 100000
namespace Go.Proofs.Ytdldallkeheciaa
open Go Go.RowKit Sx Wi Lk
def aJO (P:Program) (fs:List B):Res SV:=uF P fs
def aHv:List B:=[]
def lV:B:=(.cmp .lt (.var 9) (.var 2))
def aSt:List B:=aJ lV++aHv
def aBU:B:=(.cmp .eq (.var 3) (.var 8))
def aOv:List B:=aJ aBU++aSt
def aBz:B:=(gdB (.var 12) (.app 65 (.cons (.var 10) (.cons (.var 12) (.cons (.var 13) (.cons (.var 5) (.cons (.var 16) (.cons (.var 8) (.cons (.var 8) .nil)))))))) (.var 3))
def aQi:List B:=aJ aBz++aOv
def aCV:B:=(.cmp .eq (.var 6) (.var 2))
def aPc:List B:=aJ aCV++aQi
def aCY:B:=(.cmp .lt (.var 9) (.var 6))
def aQr:List B:=aJ aCY++aPc
def aCt:B:=(.and (.cmp .le (.app 76 (.cons (.var 12) (.cons (.var 15) (.cons (.var 7) (.cons (.var 4) (.cons (.var 2) (.cons (.app 65 (.cons (.var 10) (.cons (.var 12) (.cons (.var 13) (.cons (.var 5) (.cons (.var 16) (.cons (.var 8) (.cons (.var 8) .nil)))))))) (.cons (.var 3) (.cons (.var 9) (.cons (.op .shl (.lit 1) (.var 3)) .nil)))))))))) (.op .mul (.op .sub (.op .shl (.lit 1) (.var 4)) (.lit 1)) (.op .shl (.lit 1) (.op .mul (.lit 16) (.var 3))))) (.cmp .le (.lit 0) (.app 76 (.cons (.var 12) (.cons (.var 15) (.cons (.var 7) (.cons (.var 4) (.cons (.var 2) (.cons (.app 65 (.cons (.var 10) (.cons (.var 12) (.cons (.var 13) (.cons (.var 5) (.cons (.var 16) (.cons (.var 8) (.cons (.var 8) .nil)))))))) (.cons (.var 3) (.cons (.var 9) (.cons (.op .shl (.lit 1) (.var 3)) .nil))))))))))))
def aRd:List B:=aJ aCt++aQr
def aHB:SV:=(.agg [(.int .i64 (.op .add (.var 9) (.lit 1))),(.int .i64 (.var 9)),(.int .i64 (.var 10)),(.int .i64 (.var 10)),(.int .i64 (.var 11)),(.int .i64 (.var 11)),(.int .i64 (.var 12)),(.int .i64 (.var 12)),(.int .i64 (.var 13)),(.int .i64 (.var 13)),(.int .i64 (.var 14)),(.int .i64 (.var 14)),(.int .i64 (.var 15)),(.int .i64 (.var 15)),(.int .i64 (.var 16)),(.int .i64 (.var 16)),(.int .i64 (.app 65 (.cons (.var 10) (.cons (.var 12) (.cons (.var 13) (.cons (.var 5) (.cons (.var 16) (.cons (.var 8) (.cons (.var 8) .nil))))))))),(.int .i64 (.app 65 (.cons (.var 10) (.cons (.var 12) (.cons (.var 13) (.cons (.var 5) (.cons (.var 16) (.cons (.var 8) (.cons (.var 8) .nil))))))))),(.int .i64 (.app 92 (.cons (.var 17) (.cons (.var 9) (.cons (.op .min (.op .max (.app 68 (.cons (.var 3) (.cons (.var 4) (.cons (.app 82 (.cons (.var 14) (.cons (.var 9) (.cons (.lit 0) .nil)))) (.cons (.app 82 (.cons (.var 14) (.cons (.var 9) (.cons (.lit 1) .nil)))) (.cons (.app 76 (.cons (.var 12) (.cons (.var 15) (.cons (.var 7) (.cons (.var 4) (.cons (.var 2) (.cons (.app 65 (.cons (.var 10) (.cons (.var 12) (.cons (.var 13) (.cons (.var 5) (.cons (.var 16) (.cons (.var 8) (.cons (.var 8) .nil)))))))) (.cons (.var 3) (.cons (.var 9) (.cons (.op .shl (.lit 1) (.var 3)) .nil)))))))))) .nil)))))) (.app 82 (.cons (.var 11) (.cons (.var 9) (.cons (.lit 0) .nil))))) (.app 82 (.cons (.var 11) (.cons (.var 9) (.cons (.lit 1) .nil))))) .nil))))),(.int .i64 (.var 17))])
def aJH:List B:=aJ (B.neg lV)++aHv
def aHf:SV:=(.tuple [(.agg [(.int .i64 (.var 10)),(.int .i64 (.var 9)),(.int .i64 (.var 11)),(.int .i64 (.var 10)),(.int .i64 (.var 12)),(.int .i64 (.var 11)),(.int .i64 (.var 13)),(.int .i64 (.var 12)),(.int .i64 (.var 14)),(.int .i64 (.var 13)),(.int .i64 (.var 15)),(.int .i64 (.var 14)),(.int .i64 (.var 16)),(.int .i64 (.var 15)),(.int .i64 (.app 65 (.cons (.var 10) (.cons (.var 12) (.cons (.var 13) (.cons (.var 5) (.cons (.var 16) (.cons (.var 8) (.cons (.var 8) .nil))))))))),(.int .i64 (.app 65 (.cons (.var 9) (.cons (.var 11) (.cons (.var 12) (.cons (.var 5) (.cons (.var 15) (.cons (.var 8) (.cons (.var 8) .nil))))))))),(.int .i64 (.var 17)),(.int .i64 (.app 73 (.cons (.var 11) (.cons (.var 14) (.cons (.var 7) (.cons (.var 4) (.cons (.var 13) (.cons (.var 10) (.cons (.var 2) (.cons (.app 65 (.cons (.var 9) (.cons (.var 11) (.cons (.var 12) (.cons (.var 5) (.cons (.var 15) (.cons (.var 8) (.cons (.var 8) .nil)))))))) (.cons (.var 3) (.cons (.var 2) .nil))))))))))))]),(.bool (.lit true))])
theorem aQc:aJO Try.prog aRd = .ok aHB:=by kernel_rfl
theorem aLR:aJO Try.prog aJH = .ok aHf:=by kernel_rfl
end Go.Proofs.Ytdldallkeheciaa
namespace Go.Proofs.Ytdldallkeheciaa
open Go Go.RowKit Sx Wi Lk
def eD (x0 x1 x2 x3 x4 x5 x6 x7 x8 l0 l1 l2 l3 l4 l5 l6:Int) (j:Nat):Nat→Int:=cR ([x0,x1,x2,x3,x4,x5,x6,x7,x8,(j:Int)]++[l0,l1,l2,l3,l4,l5,l6,G 73 [l2,l5,x7,x4,l4,l1,x2,(G 65 [l0,l2,l3,x5,l6,x8,x8]),x3,(j:Int)]])
theorem aLD (x0 x1 x2 x3 x4 x5 x6 x7 x8 l0 l1 l2 l3 l4 l5 l6:Int) (b0:0≤x0∧x0≤255) (b1:1≤x1∧x1≤4) (b2:1≤x2∧x2≤4) (b3:1≤x3∧x3≤4) (b4:1≤x4∧x4≤16) (b5:0≤x5∧x5≤8) (b6:0≤x6∧x6≤8) (b7:0≤x7∧x7≤70000) (b8:1≤x8∧x8≤4) (j:Nat) (hj:(j:Int)≤x2):∀ k q,uJ[k]?=some q→q.1≤eD x0 x1 x2 x3 x4 x5 x6 x7 x8 l0 l1 l2 l3 l4 l5 l6 j k∧eD x0 x1 x2 x3 x4 x5 x6 x7 x8 l0 l1 l2 l3 l4 l5 l6 j k≤q.2:=by
 unfold eD uJ
 exact bP (xs:=[x0,x1,x2,x3,x4,x5,x6,x7,x8,(j:Int)]) (by exact⟨b0,b1,b2,b3,b4,b5,b6,b7,b8,by omega,trivial⟩)
theorem aKC (x0 x1 x2 x3 x4 x5 x6 x7 x8 l0 l1 l2 l3 l4 l5 l6:Int) (tb:oX x0 x1 x2 x3 x4 x5 x6 l0 l1 l2) (e8:x8=x1):dP l2 (G 65 [l0,l2,l3,x5,l6,x8,x8]) x3:=by
 obtain⟨_,_,_,_,_,t3,tS,_⟩:=tb
 have e:x8=x3:=by omega
 rw[e]
 exact aJs tS
set_option maxHeartbeats 4000000 in
set_option maxRecDepth 100000 in
theorem aP5 (x0 x1 x2 x3 x4 x5 x6 x7 x8 l0 l1 l2 l3 l4 l5 l6:Int) (b0:0≤x0∧x0≤255) (b1:1≤x1∧x1≤4) (b2:1≤x2∧x2≤4) (b3:1≤x3∧x3≤4) (b4:1≤x4∧x4≤16) (b5:0≤x5∧x5≤8) (b6:0≤x6∧x6≤8) (b7:0≤x7∧x7≤70000) (b8:1≤x8∧x8≤4) (tb:oX x0 x1 x2 x3 x4 x5 x6 l0 l1 l2) (e8:x8=x1) (e6:x6=x2) (j:Nat) (hj:(j:Int)≤x2):Sx.Way (uF Try.prog) G (eD x0 x1 x2 x3 x4 x5 x6 x7 x8 l0 l1 l2 l3 l4 l5 l6 j) (cF G (eD x0 x1 x2 x3 x4 x5 x6 x7 x8 l0 l1 l2 l3 l4 l5 l6) (cR ([x0,x1,x2,x3,x4,x5,x6,x7,x8]++[l0,l1,l2,l3,l4,l5,l6])) 9 (.lit true) (fun j=>(j:Int)≤x2) (fun j=>x2.toNat-j) j) []:=by
 have hr:=aKC x0 x1 x2 x3 x4 x5 x6 x7 x8 l0 l1 l2 l3 l4 l5 l6 tb e8
 have e3:x3=x8:=by have:=tb.2.2.2.2.2.1;omega
 clear tb
 refine aG lV (fun h0=>?_) (fun h0=>?_)
 rotate_left
 ·skip
  refine aH aLR ?_
  unfold lV at h0;unfold aHf;simp only[nn,eD,List.cons_append,List.nil_append,Bool.or_eq_true,aP,ne_eq]at h0;have he:(j:Int)=x2:=(by omega);clear h0;simp only[cF];refine⟨rfl,(fun k hk=>by (match k,hk with|0,_=>rfl|1,_=>rfl|2,_=>rfl|3,_=>rfl|4,_=>rfl|5,_=>rfl|6,_=>rfl|7,_=>rfl|8,_=>rfl)),?_⟩;simp only[aI];simp only[nn,eD,List.cons_append,List.nil_append,Bool.or_eq_true,aP,ne_eq];rw[he];(repeat' refine And.intro ?_ ?_)<;>first|with_reducible rfl|trivial
 refine aG aBU (fun h1=>?_) (fun h1=>?_)
 rotate_left
 ·skip
  refine aQ ?_
  unfold lV at h0;unfold aBU at h1;exfalso;have z:=h0;have z1:=h1;clear h0 h1;simp only[nn,eD,List.cons_append,List.nil_append,Bool.or_eq_true,aP,ne_eq]at z z1;omega
 refine aG aBz (fun h2=>?_) (fun h2=>?_)
 rotate_left
 ·skip
  refine aQ ?_
  unfold aBz at h2;exfalso;have z:B.den G (eD x0 x1 x2 x3 x4 x5 x6 x7 x8 l0 l1 l2 l3 l4 l5 l6 j) (gdB (.var 12) (.app 65 (.cons (.var 10) (.cons (.var 12) (.cons (.var 13) (.cons (.var 5) (.cons (.var 16) (.cons (.var 8) (.cons (.var 8) .nil)))))))) (.var 3))=true:=(tU (ρ:=eD x0 x1 x2 x3 x4 x5 x6 x7 x8 l0 l1 l2 l3 l4 l5 l6 j) (S := .var 12) (L:=(.app 65 (.cons (.var 10) (.cons (.var 12) (.cons (.var 13) (.cons (.var 5) (.cons (.var 16) (.cons (.var 8) (.cons (.var 8) .nil))))))))) (m := .var 3) b3.2).2 hr;rw[h2]at z;cases z
 refine aG aCV (fun h3=>?_) (fun h3=>?_)
 rotate_left
 ·skip
  refine aQ ?_
  unfold lV at h0;unfold aCV at h3;exfalso;have z:=h0;have z1:=h3;clear h0 h1 h2 h3;simp only[nn,eD,List.cons_append,List.nil_append,Bool.or_eq_true,aP,ne_eq]at z z1;omega
 refine aG aCY (fun h4=>?_) (fun h4=>?_)
 rotate_left
 ·skip
  refine aQ ?_
  unfold lV at h0;unfold aCY at h4;exfalso;have z:=h0;have z1:=h4;clear h0 h1 h2 h3 h4;simp only[nn,eD,List.cons_append,List.nil_append,Bool.or_eq_true,aP,ne_eq]at z z1;omega
 refine aG aCt (fun h5=>?_) (fun h5=>?_)
 ·skip
  refine aH aQc ?_
  unfold lV at h0;unfold aHB;have z:=h0;clear h0 h1 h2 h3 h4 h5;simp only[nn,eD,List.cons_append,List.nil_append,Bool.or_eq_true,aP,ne_eq]at z;have key:=aBb (S:=l2) (B:=l5) (nB:=x7) (bits:=x4) (C:=l4) (R:=l1) (L:=(G 65 [l0,l2,l3,x5,l6,x8,x8])) (m:=x3) z;have hm:x2.toNat-(j+1)<x2.toNat-j:=(by omega);have hg:((j+1:Nat):Int)≤x2:=(by omega);clear z;simp only[cF];refine⟨j+1,hg,hm,(fun k hk=>by (match k,hk with|0,_=>rfl|1,_=>rfl|2,_=>rfl|3,_=>rfl|4,_=>rfl|5,_=>rfl|6,_=>rfl|7,_=>rfl|8,_=>rfl)),?_⟩;simp only[aI];simp only[nn,eD,List.cons_append,List.nil_append,Bool.or_eq_true,aP,ne_eq];rw[key];(repeat' refine And.intro ?_ ?_)<;>first|with_reducible rfl|trivial|omega
 refine aQ ?_
 unfold aCt at h5;exfalso;obtain⟨s0,s1⟩:=aHn (B:=l5) (nB:=x7) (bits:=x4) (nR:=x2) hr ⟨by omega,b3.2⟩ b4 (j:Int);have e0:(65536:Int) ^ x3.toNat=1*2 ^ (16*x3).toNat:=p16 b3;rw[e0]at s1;clear h0 h1 h2 h3 h4;(try simp only[Bool.and_eq_false_iff]at h5);apply absurd h5;rw[Bool.not_eq_false];simp only[nn,eD,List.cons_append,List.nil_append,Bool.or_eq_true,aP,ne_eq];exact⟨s1,s0⟩
set_option maxHeartbeats 4000000 in
set_option maxRecDepth 100000 in
theorem aIs (x0 x1 x2 x3 x4 x5 x6 x7 x8 l0 l1 l2 l3 l4 l5 l6:Int) (tb:oX x0 x1 x2 x3 x4 x5 x6 l0 l1 l2) (e8:x8=x1):gG Try.prog G (bN GB) (cN (bW Try.prog 11) 0) aE9 (cR ([x0,x1,x2,x3,x4,x5,x6,x7,x8]++[l0,l1,l2,l3,l4,l5,l6])):=by
 intro hw _
 have hb:dW sW ([x0,x1,x2,x3,x4,x5,x6,x7,x8]++[0]):=hw
 unfold sW at hb
 simp only[List.cons_append,List.nil_append]at hb
 obtain⟨b0,b1,b2,b3,b4,b5,b6,b7,b8,_⟩:=hb
 have e:gA G (cR ([x0,x1,x2,x3,x4,x5,x6,x7,x8]++[l0,l1,l2,l3,l4,l5,l6])) aE9.es=eL x0 x1 x2 x3 x4 x5 x6 x7 x8 l0 l1 l2 l3 l4 l5 l6 0:=by
  rw[eI]
  unfold eL
  rw[show ((0:Nat):Int)=0 from rfl,←aGr (D:=l0) (S:=l2) (En:=l3) (nE:=x5) (IN:=l6)]
  rfl
 rw[e]
 exact⟨x8.toNat+1,iZ (ι:=Nat) (ρ:=eL x0 x1 x2 x3 x4 x5 x6 x7 x8 l0 l1 l2 l3 l4 l5 l6) (ρT:=(cR ([x0,x1,x2,x3,x4,x5,x6,x7,x8]++[l0,l1,l2,l3,l4,l5,l6]))) (m:=fun j=>x8.toNat-j) (Good:=fun j=>(j:Int)≤x8) (run:=tJ Try.prog) (f:=11) (fun _=>rfl) fits rfl eS (fun j hj=>aHW x0 x1 x2 x3 x4 x5 x6 x7 x8 l0 l1 l2 l3 l4 l5 l6 b0 b1 b2 b3 b4 b5 b6 b7 b8 j hj) (fun _ _ X hX hG=>lK hX hG) (fun _ _ X hX hG=>cG) (fun j hj=>aKi x0 x1 x2 x3 x4 x5 x6 x7 x8 l0 l1 l2 l3 l4 l5 l6 b0 b1 b2 b3 b4 b5 b6 b7 b8 tb e8 j hj) (by decide) (fun x hx=>by rw[aEa]at hx;cases hx) _ 0 (by show ((0:Nat):Int)≤x8;omega) (by show x8.toNat-0<x8.toNat+1;omega)⟩
set_option maxHeartbeats 4000000 in
set_option maxRecDepth 100000 in
theorem aIN (x0 x1 x2 x3 x4 x5 x6 x7 x8 l0 l1 l2 l3 l4 l5 l6:Int) (tb:oX x0 x1 x2 x3 x4 x5 x6 l0 l1 l2) (e8:x8=x1) (e6:x6=x2):gG Try.prog G (bN GB) (cN (bW Try.prog 11) 1) aFN (cR ([x0,x1,x2,x3,x4,x5,x6,x7,x8]++[l0,l1,l2,l3,l4,l5,l6])):=by
 intro hw _
 have hb:dW uJ ([x0,x1,x2,x3,x4,x5,x6,x7,x8]++[0]):=hw
 unfold uJ at hb
 simp only[List.cons_append,List.nil_append]at hb
 obtain⟨b0,b1,b2,b3,b4,b5,b6,b7,b8,_⟩:=hb
 have e:gA G (cR ([x0,x1,x2,x3,x4,x5,x6,x7,x8]++[l0,l1,l2,l3,l4,l5,l6])) aFN.es=eD x0 x1 x2 x3 x4 x5 x6 x7 x8 l0 l1 l2 l3 l4 l5 l6 0:=by
  rw[eI]
  unfold eD
  rw[show ((0:Nat):Int)=0 from rfl,←aA1 (S:=l2) (B:=l5) (nB:=x7) (bits:=x4) (C:=l4) (R:=l1) (L:=G 65 [l0,l2,l3,x5,l6,x8,x8]) (m:=x3)]
  rfl
 rw[e]
 exact⟨x2.toNat+1,iZ (ι:=Nat) (ρ:=eD x0 x1 x2 x3 x4 x5 x6 x7 x8 l0 l1 l2 l3 l4 l5 l6) (ρT:=(cR ([x0,x1,x2,x3,x4,x5,x6,x7,x8]++[l0,l1,l2,l3,l4,l5,l6]))) (m:=fun j=>x2.toNat-j) (Good:=fun j=>(j:Int)≤x2) (run:=uF Try.prog) (f:=11) (fun _=>rfl) fits rfl eS (fun j hj=>aLD x0 x1 x2 x3 x4 x5 x6 x7 x8 l0 l1 l2 l3 l4 l5 l6 b0 b1 b2 b3 b4 b5 b6 b7 b8 j hj) (fun _ _ X hX hG=>lK hX hG) (fun _ _ X hX hG=>cG) (fun j hj=>aP5 x0 x1 x2 x3 x4 x5 x6 x7 x8 l0 l1 l2 l3 l4 l5 l6 b0 b1 b2 b3 b4 b5 b6 b7 b8 tb e8 e6 j hj) (by decide) (fun x hx=>by rw[aEh]at hx;exact Option.mem_toList.1 hx) _ 0 (by show ((0:Nat):Int)≤x2;omega) (by show x2.toNat-0<x2.toNat+1;omega)⟩
set_option maxHeartbeats 8000000 in
set_option maxRecDepth 100000 in
theorem aN0 (x0 x1 x2 x3 x4 x5 x6 x7 x8 l0 l1 l2 l3 l4 l5 l6:Int) (b0:0≤x0∧x0≤255) (b1:0≤x1∧x1≤8) (b2:0≤x2∧x2≤8) (b3:0≤x3∧x3≤8) (b4:(-9223372036854775808)≤x4∧x4≤9223372036854775807) (b5:0≤x5∧x5≤8) (b6:0≤x6∧x6≤8) (b7:0≤x7∧x7≤70000) (b8:0≤x8∧x8≤8) (hp:aBJ.den G (cR ([x0,x1,x2,x3,x4,x5,x6,x7,x8]++[l0,l1,l2,l3,l4,l5,l6]))=true):gD Try.prog G GB 11 aLq (cR ([x0,x1,x2,x3,x4,x5,x6,x7,x8]++[l0,l1,l2,l3,l4,l5,l6])):=by
 have hq:=hp
 unfold aBJ at hq
 rw[aZ,aZ,Bool.and_eq_true,Bool.and_eq_true]at hq
 have tb:=nF (x0:=x0) (x1:=x1) (x2:=x2) (x3:=x3) (x4:=x4) (x5:=x5) (x6:=x6) (x7:=x7) (D:=l0) (R:=l1) (S:=l2) (ls:=[]) hq.1.1
 have hz:=hq.2
 simp only[nn,List.cons_append,List.nil_append,Bool.or_eq_true,aP,ne_eq]at hz
 obtain⟨e8,e6,e60⟩:=hz
 refine cX (lp:=aMR) (run:=aGq Try.prog) (fun _=>rfl) fits (bP (xs:=[x0,x1,x2,x3,x4,x5,x6,x7,x8]) (ls:=[l0,l1,l2,l3,l4,l5,l6]) (by exact⟨b0,b1,b2,b3,b4,b5,b6,b7,b8,trivial⟩)) eS (fun X hX hG=>lK hX hG) (fun X hX hG fn c hf hc=>?_) rfl ?_
 ·refine kX ((congrArg bI (nM hf hc)).symm.trans aIl) ?_
  intro b hb
  simp only[List.mem_cons,List.mem_nil_iff,or_false]at hb
  rcases hb with rfl|rfl
  ·refine iJ hX hG (by kernel_rfl) ?_
   intro p hp'
   simp only[List.mem_cons,List.mem_nil_iff,or_false]at hp'
   subst hp'
   exact aIs x0 x1 x2 x3 x4 x5 x6 x7 x8 l0 l1 l2 l3 l4 l5 l6 tb e8
  ·refine qX (j:=17) (by kernel_rfl) (by decide) (iJ hX hG (by kernel_rfl) ?_)
   intro p hp'
   simp only[List.mem_cons,List.mem_nil_iff,or_false]at hp'
   subst hp'
   exact aIN x0 x1 x2 x3 x4 x5 x6 x7 x8 l0 l1 l2 l3 l4 l5 l6 tb e8 e6
 ·skip
  refine aG aDg (fun h0=>?_) (fun h0=>?_)
  rotate_left
  ·skip
   refine aQ ?_
   unfold aDg at h0;exfalso;rw[aZ,hq.1.1,hq.1.2]at h0;cases h0
  refine aG aBN (fun h1=>?_) (fun h1=>?_)
  rotate_left
  ·skip
   refine aQ ?_
   unfold aBN at h1;exfalso;have z:=h1;clear h0 h1 hq hp;obtain⟨t0,t1,tD,t2,tR,t3,tS,t4,t5,t6⟩:=tb;clear tD tR tS;simp only[nn,List.cons_append,List.nil_append,Bool.or_eq_true,aP,ne_eq]at z;omega
  refine aG aCC (fun h2=>?_) (fun h2=>?_)
  rotate_left
  ·skip
   refine aQ ?_
   unfold aCC at h2;exfalso;have z:=h2;clear h0 h1 h2 hq hp;obtain⟨t0,t1,tD,t2,tR,t3,tS,t4,t5,t6⟩:=tb;clear tD tR tS;simp only[nn,List.cons_append,List.nil_append,Bool.or_eq_true,aP,ne_eq]at z;omega
  refine aG aDf (fun h3=>?_) (fun h3=>?_)
  rotate_left
  ·skip
   refine aQ ?_
   unfold aDf at h3;exfalso;have z:=h3;clear h0 h1 h2 h3 hq hp;obtain⟨t0,t1,tD,t2,tR,t3,tS,t4,t5,t6⟩:=tb;clear tD tR tS;simp only[nn,List.cons_append,List.nil_append,Bool.or_eq_true,aP,ne_eq]at z;omega
  refine aG aBG (fun h4=>?_) (fun h4=>?_)
  rotate_left
  ·skip
   refine aQ ?_
   unfold aBG at h4;exfalso;have z:=h4;clear h0 h1 h2 h3 h4 hq hp;obtain⟨t0,t1,tD,t2,tR,t3,tS,t4,t5,t6⟩:=tb;clear tD tR tS;simp only[nn,List.cons_append,List.nil_append,Bool.or_eq_true,aP,ne_eq]at z;omega
  refine aG aCZ (fun h5=>?_) (fun h5=>?_)
  rotate_left
  ·skip
   refine aQ ?_
   unfold aCZ at h5;exfalso;have z:=h5;clear h0 h1 h2 h3 h4 h5 hq hp;obtain⟨t0,t1,tD,t2,tR,t3,tS,t4,t5,t6⟩:=tb;clear tD tR tS;simp only[nn,List.cons_append,List.nil_append,Bool.or_eq_true,aP,ne_eq]at z;omega
  refine aG aBO (fun h6=>?_) (fun h6=>?_)
  rotate_left
  ·skip
   refine aQ ?_
   unfold aBO at h6;exfalso;have z:=h6;clear h0 h1 h2 h3 h4 h5 h6 hq hp;obtain⟨t0,t1,tD,t2,tR,t3,tS,t4,t5,t6⟩:=tb;clear tD tR tS;simp only[nn,List.cons_append,List.nil_append,Bool.or_eq_true,aP,ne_eq]at z;omega
  refine aG aCM (fun h7=>?_) (fun h7=>?_)
  rotate_left
  ·skip
   refine aQ ?_
   unfold aCM at h7;exfalso;have z:=h7;clear h0 h1 h2 h3 h4 h5 h6 h7 hq hp;obtain⟨t0,t1,tD,t2,tR,t3,tS,t4,t5,t6⟩:=tb;clear tD tR tS;simp only[nn,List.cons_append,List.nil_append,Bool.or_eq_true,aP,ne_eq]at z;omega
  refine aG aCK (fun h8=>?_) (fun h8=>?_)
  rotate_left
  ·skip
   refine aQ ?_
   unfold aCK at h8;exfalso;have z:=h8;clear h0 h1 h2 h3 h4 h5 h6 h7 h8 hq hp;obtain⟨t0,t1,tD,t2,tR,t3,tS,t4,t5,t6⟩:=tb;clear tD tR tS;simp only[nn,List.cons_append,List.nil_append,Bool.or_eq_true,aP,ne_eq]at z;omega
  refine aG aDc (fun h9=>?_) (fun h9=>?_)
  rotate_left
  ·skip
   refine aQ ?_
   unfold aDc at h9;exfalso;have z:=h9;clear h0 h1 h2 h3 h4 h5 h6 h7 h8 h9 hq hp;obtain⟨t0,t1,tD,t2,tR,t3,tS,t4,t5,t6⟩:=tb;clear tD tR tS;simp only[nn,List.cons_append,List.nil_append,Bool.or_eq_true,aP,ne_eq]at z;omega
  refine aG aAf (fun h10=>?_) (fun h10=>?_)
  rotate_left
  ·skip
   refine aQ ?_
   unfold aAf at h10;exfalso;have z:=h10;clear h0 h1 h2 h3 h4 h5 h6 h7 h8 h9 h10 hq hp;obtain⟨t0,t1,tD,t2,tR,t3,tS,t4,t5,t6⟩:=tb;clear tD tR tS;simp only[nn,List.cons_append,List.nil_append,Bool.or_eq_true,aP,ne_eq]at z;omega
  refine aG aAi (fun h11=>?_) (fun h11=>?_)
  rotate_left
  ·skip
   refine aQ ?_
   unfold aAi at h11;exfalso;have z:=h11;clear h0 h1 h2 h3 h4 h5 h6 h7 h8 h9 h10 h11 hq hp;obtain⟨t0,t1,tD,t2,tR,t3,tS,t4,t5,t6⟩:=tb;clear tD tR tS;simp only[nn,List.cons_append,List.nil_append,Bool.or_eq_true,aP,ne_eq]at z;omega
  refine aG yY (fun h12=>?_) (fun h12=>?_)
  rotate_left
  ·skip
   refine aQ ?_
   unfold yY at h12;exfalso;have z:=h12;clear h0 h1 h2 h3 h4 h5 h6 h7 h8 h9 h10 h11 h12 hq hp;obtain⟨t0,t1,tD,t2,tR,t3,tS,t4,t5,t6⟩:=tb;clear tD tR tS;simp only[nn,List.cons_append,List.nil_append,Bool.or_eq_true,aP,ne_eq]at z;omega
  refine aG xM (fun h13=>?_) (fun h13=>?_)
  rotate_left
  ·skip
   refine aQ ?_
   unfold xM at h13;exfalso;have z:=h13;clear h0 h1 h2 h3 h4 h5 h6 h7 h8 h9 h10 h11 h12 h13 hq hp;obtain⟨t0,t1,tD,t2,tR,t3,tS,t4,t5,t6⟩:=tb;clear tD tR tS;simp only[nn,List.cons_append,List.nil_append,Bool.or_eq_true,aP,ne_eq]at z;omega
  refine aG aAw (fun h14=>?_) (fun h14=>?_)
  rotate_left
  ·skip
   refine aQ ?_
   unfold aAw at h14;exfalso;have z:=h14;clear h0 h1 h2 h3 h4 h5 h6 h7 h8 h9 h10 h11 h12 h13 h14 hq hp;obtain⟨t0,t1,tD,t2,tR,t3,tS,t4,t5,t6⟩:=tb;clear tD tR tS;simp only[nn,List.cons_append,List.nil_append,Bool.or_eq_true,aP,ne_eq]at z;omega
  refine aG zM (fun h15=>?_) (fun h15=>?_)
  ·skip
   refine aH aMD ?_
   exact⟨rfl,trivial⟩
  refine aQ ?_
  unfold zM at h15;exfalso;have z:=h15;clear h0 h1 h2 h3 h4 h5 h6 h7 h8 h9 h10 h11 h12 h13 h14 h15 hq hp;obtain⟨t0,t1,tD,t2,tR,t3,tS,t4,t5,t6⟩:=tb;clear tD tR tS;simp only[nn,List.cons_append,List.nil_append,Bool.or_eq_true,aP,ne_eq]at z;omega
def aAW:Ctx→List SV→aM→Res (SV × aM):=dZ GB [(0,255),(0,8),(0,8),(0,8),((-9223372036854775808),9223372036854775807),(0,8),(0,8),(0,70000),(0,8)] 7 aBJ aLq
theorem aUb {X:Ctx} {ρ:Nat→Int} (hX:X.Ok ρ) (hG:X.G=G):eU Try.prog X ρ GB 11 aAW:=by
 obtain⟨XG,XI,XV,XF⟩:=X
 simp only at hG
 subst hG
 refine cU hX ?_
 intro xs ls hw hl hp
 obtain⟨x0,y0,e0,b0,h0⟩:=aY hw
 obtain⟨x1,y1,e1,b1,h1⟩:=aY h0
 obtain⟨x2,y2,e2,b2,h2⟩:=aY h1
 obtain⟨x3,y3,e3,b3,h3⟩:=aY h2
 obtain⟨x4,y4,e4,b4,h4⟩:=aY h3
 obtain⟨x5,y5,e5,b5,h5⟩:=aY h4
 obtain⟨x6,y6,e6,b6,h6⟩:=aY h5
 obtain⟨x7,y7,e7,b7,h7⟩:=aY h6
 obtain⟨x8,y8,e8,b8,h8⟩:=aY h7
 have e9:=jS h8
 subst e9 e8 e7 e6 e5 e4 e3 e2 e1 e0
 obtain⟨l0,z0,q0,hl0⟩:=bJ hl
 obtain⟨l1,z1,q1,hl1⟩:=bJ hl0
 obtain⟨l2,z2,q2,hl2⟩:=bJ hl1
 obtain⟨l3,z3,q3,hl3⟩:=bJ hl2
 obtain⟨l4,z4,q4,hl4⟩:=bJ hl3
 obtain⟨l5,z5,q5,hl5⟩:=bJ hl4
 obtain⟨l6,z6,q6,hl6⟩:=bJ hl5
 have q7:=List.length_eq_zero_iff.1 hl6
 subst q7 q6 q5 q4 q3 q2 q1 q0
 exact aN0 x0 x1 x2 x3 x4 x5 x6 x7 x8 l0 l1 l2 l3 l4 l5 l6 b0 b1 b2 b3 b4 b5 b6 b7 b8 hp
def aAF:List (Int × Int):=[(0,255),(0,9223372036854775807),(0,17592186043904),((-9223372036854775808),9223372036854775807),(0,9223372036854775807),(0,9223372036854775807),(0,9223372036854775807),(0,9223372036854775807),((-2147483648),2147483647),(0,9223372036854775807),(0,9223372036854775807),(0,9223372036854775807),(0,17592186043904)]
def aXc:St:=⟨[.any,(.ptr 8 0),(.ptr 9 0),(.own 10 (.var 12) none),(.int .i64 (.var 12)),.any,.any,.any,.any,.any,.any,.any,.any,.any,.any,.any,.any,.any,.any,.any,.any,.any,.any,.any,.any,.any,.any,.any,.any,.any],[some ([.vec [.int .i32,.int .i32] (.var 13) (.var 1) true],aF),some ([.vec [.int .i64] (.var 14) (.var 2) true],aF),some ([.vec [.int .i32,.int .i32] (.var 15) (.var 4) true],aF),some ([.vec [.int .u8] (.var 16) (.var 5) true],aF),some ([.vec [.int .i64] (.lit 0) (.lit 0) true],aF),some ([.vec [.int .i64] (.lit 0) (.lit 0) true],aF),some ([.vec [.int .i64] (.lit 0) (.lit 0) true],aF),some ([.vec [.int .i64] (.lit 0) (.lit 0) true],aF),some ([(.int .u8 (.var 0)),.any,(.own 0 (.var 1) none),(.own 1 (.var 2) none),(.int .i64 (.var 3)),(.con (.slice none 0 0)),(.own 2 (.var 4) none),(.own 3 (.var 5) none),(.own 4 (.var 6) none),(.own 5 (.var 7) none),(.int .i32 (.var 8)),(.own 6 (.var 9) none),(.own 7 (.var 10) none),(.text (.var 11))],30),some ([.int .u8 (.lit 0),(.con (.slice none 0 0)),(.con (.slice none 0 0)),(.con (.slice none 0 0)),.int .i64 (.lit 0),(.con (.slice none 0 0)),(.con (.slice none 0 0)),(.con (.slice none 0 0)),(.con (.slice none 0 0)),(.con (.slice none 0 0)),.int .i32 (.lit 0),(.con (.slice none 0 0)),(.con (.slice none 0 0)),.any],30),some ([.vec [.int .i32,.int .i32] (.var 17) (.var 12) false],aU+41)]⟩
def aWt:St:=⟨[.any,(.ptr 8 0),(.ptr 9 0),(.own 10 (.var 2) none),.any,.any,.any,.any,.any,.any,.any,.any,.any,.any,.any,.any,.any,.any,.any,.any,.any,.any,.any,.any,.any,.any,.any,.any,.any,.any],[some ([.vec [.int .i32,.int .i32] (.var 12) (.var 1) true],aF),some ([.vec [.int .i64] (.var 13) (.var 2) true],aF),some ([.vec [.int .i32,.int .i32] (.var 14) (.var 4) true],aF),some ([.vec [.int .u8] (.var 15) (.var 5) true],aF),some ([.vec [.int .i64] (.lit 0) (.lit 0) true],aF),some ([.vec [.int .i64] (.lit 0) (.lit 0) true],aF),some ([.vec [.int .i64] (.lit 0) (.lit 0) true],aF),some ([.vec [.int .i64] (.lit 0) (.lit 0) true],aF),some ([(.int .u8 (.var 0)),.any,(.own 0 (.var 1) none),(.own 1 (.var 2) none),(.int .i64 (.var 3)),(.con (.slice none 0 0)),(.own 2 (.var 4) none),(.own 3 (.var 5) none),(.own 4 (.var 6) none),(.own 5 (.var 7) none),(.int .i32 (.var 8)),(.own 6 (.var 9) none),(.own 7 (.var 10) none),(.text (.var 11))],30),some ([.int .u8 (.lit 0),(.con (.slice none 0 0)),(.con (.slice none 0 0)),(.con (.slice none 0 0)),.int .i64 (.lit 0),(.con (.slice none 0 0)),(.con (.slice none 0 0)),(.con (.slice none 0 0)),(.con (.slice none 0 0)),(.con (.slice none 0 0)),.int .i32 (.lit 0),(.con (.slice none 0 0)),(.con (.slice none 0 0)),.any],30),some ([.vec [.int .i32,.int .i32] (.app 74 (.cons (.var 13) (.cons (.var 2) .nil))) (.var 2) false],aU+41)]⟩
def aWX:LoopS:=⟨12,10,aXc,.lit true,.exit 0,aWt,.exit 0,aWt⟩
def aWp:List E:=[(.var 0),(.var 1),(.var 2),(.var 3),(.var 4),(.var 5),(.var 6),(.var 7),(.var 8),(.var 9),(.var 10),(.var 11),(.lit 0),(.var 12),(.var 13),(.var 14),(.var 15),(.lit 0)]
def aVi:LoopU:=⟨aWX,aWp,aAF,.lit true⟩
def aTk:fH:=jM 4 (fS (bN GB) [aVi]) dQ
def yB (P:Program) (fs:List B):Res SV:=cB G GI aAF fs fun X=>oP P X GB gN dQ 4000 (cN (bW P 19) 0) aWX
def aU5:FunS:=⟨[(.agg [(.int .u8 (.var 0)),.any,(.own 0 (.var 1) none),(.own 1 (.var 2) none),(.int .i64 (.var 3)),.any,(.own 2 (.var 4) none),(.own 3 (.var 5) none),(.own 4 (.var 6) none),(.own 5 (.var 7) none),(.int .i32 (.var 8)),(.own 6 (.var 9) none),(.own 7 (.var 10) none),(.text (.var 11))])],[some ([.vec [.int .i32,.int .i32] (.var 12) (.var 1) true],aF),some ([.vec [.int .i64] (.var 13) (.var 2) true],aF),some ([.vec [.int .i32,.int .i32] (.var 14) (.var 4) true],aF),some ([.vec [.int .u8] (.var 15) (.var 5) true],aF),some ([.vec [.int .i64] (.lit 0) (.lit 0) true],aF),some ([.vec [.int .i64] (.lit 0) (.lit 0) true],aF),some ([.vec [.int .i64] (.lit 0) (.lit 0) true],aF),some ([.vec [.int .i64] (.lit 0) (.lit 0) true],aF)],.lit true,(.agg [(.int .u8 (.var 0)),(.own 8 (.var 2) none),(.own 0 (.var 1) none),(.own 1 (.var 2) none),(.int .i64 (.var 3)),(.con (.slice none 0 0)),(.own 2 (.var 4) none),(.own 3 (.var 5) none),(.own 4 (.var 6) none),(.own 5 (.var 7) none),(.int .i32 (.var 8)),(.own 6 (.var 9) none),(.own 7 (.var 10) none),(.text (.var 11))]),[some ([.vec [.int .i32,.int .i32] (.var 12) (.var 1) true],aF),some ([.vec [.int .i64] (.var 13) (.var 2) true],aF),some ([.vec [.int .i32,.int .i32] (.var 14) (.var 4) true],aF),some ([.vec [.int .u8] (.var 15) (.var 5) true],aF),some ([.vec [.int .i64] (.lit 0) (.lit 0) true],aF),some ([.vec [.int .i64] (.lit 0) (.lit 0) true],aF),some ([.vec [.int .i64] (.lit 0) (.lit 0) true],aF),some ([.vec [.int .i64] (.lit 0) (.lit 0) true],aF),some ([.vec [.int .i32,.int .i32] (.app 74 (.cons (.var 13) (.cons (.var 2) .nil))) (.var 2) false],aU+41)],(.agg [(.int .u8 (.var 0)),(.own 8 (.var 2) none),(.own 0 (.var 1) none),(.own 1 (.var 2) none),(.int .i64 (.var 3)),(.con (.slice none 0 0)),(.own 2 (.var 4) none),(.own 3 (.var 5) none),(.own 4 (.var 6) none),(.own 5 (.var 7) none),(.int .i32 (.var 8)),(.own 6 (.var 9) none),(.own 7 (.var 10) none),(.text (.var 11))]),[some ([.vec [.int .i32,.int .i32] (.var 12) (.var 1) true],aF),some ([.vec [.int .i64] (.var 13) (.var 2) true],aF),some ([.vec [.int .i32,.int .i32] (.var 14) (.var 4) true],aF),some ([.vec [.int .u8] (.var 15) (.var 5) true],aF),some ([.vec [.int .i64] (.lit 0) (.lit 0) true],aF),some ([.vec [.int .i64] (.lit 0) (.lit 0) true],aF),some ([.vec [.int .i64] (.lit 0) (.lit 0) true],aF),some ([.vec [.int .i64] (.lit 0) (.lit 0) true],aF),some ([.vec [.int .i32,.int .i32] (.app 74 (.cons (.var 13) (.cons (.var 2) .nil))) (.var 2) false],aU+41)]⟩
def aNu (P:Program) (fs:List B):Res SV:=cB G GI [(0,255),(0,9223372036854775807),(0,17592186043904),((-9223372036854775808),9223372036854775807),(0,9223372036854775807),(0,9223372036854775807),(0,9223372036854775807),(0,9223372036854775807),((-2147483648),2147483647),(0,9223372036854775807),(0,9223372036854775807),(0,9223372036854775807)] fs fun X=>gJ P X GB gN aTk 4000 19 aU5
theorem aMb:bI (bW Try.prog 19)=[cN (bW Try.prog 19) 0]:=by kernel_rfl
end Go.Proofs.Ytdldallkeheciaa
set_option maxRecDepth 100000
namespace Go.Proofs.Ytdldallkeheciaa
open Go Go.RowKit Sx Wi Lk
def aCp (P:Program) (fs:List B):Res SV:=yB P fs
def aDm:List B:=[]
def mV:B:=(.cmp .lt (.var 12) (.var 2))
def aDG:List B:=aJ mV++aDm
def pI:B:=(.cmp .le (.lit (-9223372036854775808)) (.op .sub (.app 83 (.cons (.var 14) (.cons (.var 12) (.cons (.lit 0) .nil)))) (.lit 1)))
def aMh:List B:=aJ pI++aDG
def aEc:SV:=(.agg [(.int .i64 (.op .add (.var 12) (.lit 1))),(.int .i64 (.var 12)),(.int .i64 (.op .add (.var 12) (.lit 1))),(.int .i64 (.var 12)),(.int .i64 (.var 13)),(.int .i64 (.var 13)),(.int .i64 (.var 14)),(.int .i64 (.var 14)),(.int .i64 (.var 15)),(.int .i64 (.var 15)),(.int .i64 (.var 16)),(.int .i64 (.var 16)),(.int .i64 (.app 91 (.cons (.var 17) (.cons (.lit 0) (.cons (.op .mul (.lit 65536) (.op .max (.lit 1) (.op .min (.lit 255) (.op .sub (.app 83 (.cons (.var 14) (.cons (.var 12) (.cons (.lit 0) .nil)))) (.lit 1))))) .nil))))),(.int .i64 (.var 17)),(.int .i64 (.op .add (.var 12) (.lit 1))),(.int .i64 (.var 12))])
def aNj:List B:=aJ (B.neg pI)++aDG
def aDP:SV:=(.agg [(.int .i64 (.op .add (.var 12) (.lit 1))),(.int .i64 (.var 12)),(.int .i64 (.op .add (.var 12) (.lit 1))),(.int .i64 (.var 12)),(.int .i64 (.var 13)),(.int .i64 (.var 13)),(.int .i64 (.var 14)),(.int .i64 (.var 14)),(.int .i64 (.var 15)),(.int .i64 (.var 15)),(.int .i64 (.var 16)),(.int .i64 (.var 16)),(.int .i64 (.app 91 (.cons (.var 17) (.cons (.lit 0) (.cons (.op .mul (.lit 65536) (.op .max (.lit 1) (.op .min (.lit 255) (.wrap .i64 (.op .sub (.app 83 (.cons (.var 14) (.cons (.var 12) (.cons (.lit 0) .nil)))) (.lit 1)))))) .nil))))),(.int .i64 (.var 17)),(.int .i64 (.op .add (.var 12) (.lit 1))),(.int .i64 (.var 12))])
def aKP:List B:=aJ (B.neg mV)++aDm
def aDN:SV:=(.tuple [(.agg [(.int .i64 (.var 12)),(.int .i64 (.var 2)),(.int .i64 (.var 13)),(.int .i64 (.var 12)),(.int .i64 (.var 14)),(.int .i64 (.var 13)),(.int .i64 (.var 15)),(.int .i64 (.var 14)),(.int .i64 (.var 16)),(.int .i64 (.var 15)),(.int .i64 (.var 17)),(.int .i64 (.app 74 (.cons (.var 13) (.cons (.var 2) .nil)))),(.int .i64 (.var 12)),(.int .i64 (.var 2))]),(.bool (.lit true))])
theorem aKw:aCp Try.prog aMh = .ok aEc:=by kernel_rfl
theorem aKR:aCp Try.prog aNj = .ok aDP:=by kernel_rfl
theorem aLr:aCp Try.prog aKP = .ok aDN:=by kernel_rfl
end Go.Proofs.Ytdldallkeheciaa
set_option maxRecDepth 100000
namespace Go.Proofs.Ytdldallkeheciaa
open Go Go.RowKit Sx Wi Lk
def aQX (P:Program) (fs:List B):Res SV:=aNu P fs
def aJt:List B:=[]
theorem aL0:aQX Try.prog aJt = .ok (.tuple [(.agg []),(.bool (.lit true))]):=by kernel_rfl
end Go.Proofs.Ytdldallkeheciaa
namespace Go.Proofs.Ytdldallkeheciaa
open Go Go.RowKit Sx Wi Lk
def iN (x0 x1 x2 x3 x4 x5 x6 x7 x8 x9 x10 x11 l0 l1 l2 l3:Int) (i:Nat):Nat→Int:=cR ([x0,x1,x2,x3,x4,x5,x6,x7,x8,x9,x10,x11,(i:Int)]++[l0,l1,l2,l3,G 74 [l1,(i:Int)]])
theorem aPf (x0 x1 x2 x3 x4 x5 x6 x7 x8 x9 x10 x11 l0 l1 l2 l3:Int) (b0:0≤x0∧x0≤255) (b1:0≤x1∧x1≤9223372036854775807) (b2:0≤x2∧x2≤17592186043904) (b3:(-9223372036854775808)≤x3∧x3≤9223372036854775807) (b4:0≤x4∧x4≤9223372036854775807) (b5:0≤x5∧x5≤9223372036854775807) (b6:0≤x6∧x6≤9223372036854775807) (b7:0≤x7∧x7≤9223372036854775807) (b8:(-2147483648)≤x8∧x8≤2147483647) (b9:0≤x9∧x9≤9223372036854775807) (b10:0≤x10∧x10≤9223372036854775807) (b11:0≤x11∧x11≤9223372036854775807) (i:Nat) (hi:(i:Int)≤x2):∀ k q,aAF[k]?=some q→q.1≤iN x0 x1 x2 x3 x4 x5 x6 x7 x8 x9 x10 x11 l0 l1 l2 l3 i k∧iN x0 x1 x2 x3 x4 x5 x6 x7 x8 x9 x10 x11 l0 l1 l2 l3 i k≤q.2:=by
 unfold iN aAF
 exact bP (xs:=[x0,x1,x2,x3,x4,x5,x6,x7,x8,x9,x10,x11,(i:Int)]) (by exact⟨b0,b1,b2,b3,b4,b5,b6,b7,b8,b9,b10,b11,by omega,trivial⟩)
set_option maxHeartbeats 4000000 in
set_option maxRecDepth 100000 in
theorem aUZ (x0 x1 x2 x3 x4 x5 x6 x7 x8 x9 x10 x11 l0 l1 l2 l3:Int) (b0:0≤x0∧x0≤255) (b1:0≤x1∧x1≤9223372036854775807) (b2:0≤x2∧x2≤17592186043904) (b3:(-9223372036854775808)≤x3∧x3≤9223372036854775807) (b4:0≤x4∧x4≤9223372036854775807) (b5:0≤x5∧x5≤9223372036854775807) (b6:0≤x6∧x6≤9223372036854775807) (b7:0≤x7∧x7≤9223372036854775807) (b8:(-2147483648)≤x8∧x8≤2147483647) (b9:0≤x9∧x9≤9223372036854775807) (b10:0≤x10∧x10≤9223372036854775807) (b11:0≤x11∧x11≤9223372036854775807) (i:Nat) (hi:(i:Int)≤x2):Sx.Way (yB Try.prog) G (iN x0 x1 x2 x3 x4 x5 x6 x7 x8 x9 x10 x11 l0 l1 l2 l3 i) (cF G (iN x0 x1 x2 x3 x4 x5 x6 x7 x8 x9 x10 x11 l0 l1 l2 l3) (cR ([x0,x1,x2,x3,x4,x5,x6,x7,x8,x9,x10,x11]++[l0,l1,l2,l3])) 12 (.lit true) (fun i=>(i:Int)≤x2) (fun i=>x2.toNat-i) i) []:=by
 refine aG mV (fun h0=>?_) (fun h0=>?_)
 rotate_left
 ·skip
  refine aH aLr ?_
  unfold mV at h0;unfold aDN;simp only[nn,iN,List.cons_append,List.nil_append,Bool.or_eq_true,aP,ne_eq]at h0;have he:(i:Int)=x2:=(by omega);clear h0;simp only[cF];refine⟨rfl,(fun k hk=>by (match k,hk with|0,_=>rfl|1,_=>rfl|2,_=>rfl|3,_=>rfl|4,_=>rfl|5,_=>rfl|6,_=>rfl|7,_=>rfl|8,_=>rfl|9,_=>rfl|10,_=>rfl|11,_=>rfl)),?_⟩;simp only[aI];simp only[nn,iN,List.cons_append,List.nil_append,Bool.or_eq_true,aP,ne_eq];rw[he];(repeat' refine And.intro ?_ ?_)<;>first|with_reducible rfl|trivial
 refine aG pI (fun h1=>?_) (fun h1=>?_)
 ·skip
  refine aH aKw ?_
  unfold mV at h0;unfold pI at h1;unfold aEc;simp only[nn,iN,List.cons_append,List.nil_append,Bool.or_eq_true,aP,ne_eq]at h0 h1;have hm:x2.toNat-(i+1)<x2.toNat-i:=(by omega);have hg:((i+1:Nat):Int)≤x2:=(by omega);have key:=aEq l1 i (aJm l1 i h1);clear h0 h1;simp only[cF];refine⟨i+1,hg,hm,(fun k hk=>by (match k,hk with|0,_=>rfl|1,_=>rfl|2,_=>rfl|3,_=>rfl|4,_=>rfl|5,_=>rfl|6,_=>rfl|7,_=>rfl|8,_=>rfl|9,_=>rfl|10,_=>rfl|11,_=>rfl)),?_⟩;simp only[aI];simp only[nn,iN,List.cons_append,List.nil_append,Bool.or_eq_true,aP,ne_eq];(repeat' refine And.intro ?_ ?_)<;>first|with_reducible rfl|with_reducible exact key|trivial|omega
 refine aH aKR ?_
 unfold mV at h0;unfold pI at h1;unfold aDP;simp only[nn,iN,List.cons_append,List.nil_append,Bool.or_eq_true,aP,ne_eq]at h0 h1;have hm:x2.toNat-(i+1)<x2.toNat-i:=(by omega);have hg:((i+1:Nat):Int)≤x2:=(by omega);have key:=aEq l1 i rfl;clear h0 h1;simp only[cF];refine⟨i+1,hg,hm,(fun k hk=>by (match k,hk with|0,_=>rfl|1,_=>rfl|2,_=>rfl|3,_=>rfl|4,_=>rfl|5,_=>rfl|6,_=>rfl|7,_=>rfl|8,_=>rfl|9,_=>rfl|10,_=>rfl|11,_=>rfl)),?_⟩;simp only[aI];simp only[nn,iN,List.cons_append,List.nil_append,Bool.or_eq_true,aP,ne_eq];(repeat' refine And.intro ?_ ?_)<;>first|with_reducible rfl|with_reducible exact key|trivial|omega
set_option maxHeartbeats 4000000 in
set_option maxRecDepth 100000 in
theorem aTG (x0 x1 x2 x3 x4 x5 x6 x7 x8 x9 x10 x11 l0 l1 l2 l3:Int):gG Try.prog G (bN GB) (cN (bW Try.prog 19) 0) aVi (cR ([x0,x1,x2,x3,x4,x5,x6,x7,x8,x9,x10,x11]++[l0,l1,l2,l3])):=by
 intro hw _
 have hb:dW aAF ([x0,x1,x2,x3,x4,x5,x6,x7,x8,x9,x10,x11]++[0]):=hw
 unfold aAF at hb
 simp only[List.cons_append,List.nil_append]at hb
 obtain⟨b0,b1,b2,b3,b4,b5,b6,b7,b8,b9,b10,b11,_⟩:=hb
 have e:gA G (cR ([x0,x1,x2,x3,x4,x5,x6,x7,x8,x9,x10,x11]++[l0,l1,l2,l3])) aVi.es=iN x0 x1 x2 x3 x4 x5 x6 x7 x8 x9 x10 x11 l0 l1 l2 l3 0:=by
  rw[eI]
  unfold iN
  rw[show ((0:Nat):Int)=0 from rfl,←aMU]
  rfl
 rw[e]
 exact⟨x2.toNat+1,gB (ι:=Nat) (ρ:=iN x0 x1 x2 x3 x4 x5 x6 x7 x8 x9 x10 x11 l0 l1 l2 l3) (ρT:=(cR ([x0,x1,x2,x3,x4,x5,x6,x7,x8,x9,x10,x11]++[l0,l1,l2,l3]))) (m:=fun i=>x2.toNat-i) (Good:=fun i=>(i:Int)≤x2) (run:=yB Try.prog) (fun _=>rfl) fits rfl eS (fun i hi=>aPf x0 x1 x2 x3 x4 x5 x6 x7 x8 x9 x10 x11 l0 l1 l2 l3 b0 b1 b2 b3 b4 b5 b6 b7 b8 b9 b10 b11 i hi) (fun _ _ X hX hG=>dA hX hG) (fun _ _ X hX hG=>cG) (fun i hi=>aUZ x0 x1 x2 x3 x4 x5 x6 x7 x8 x9 x10 x11 l0 l1 l2 l3 b0 b1 b2 b3 b4 b5 b6 b7 b8 b9 b10 b11 i hi) (by decide) _ 0 (by show ((0:Nat):Int)≤x2;omega) (by show x2.toNat-0<x2.toNat+1;omega)⟩
set_option maxHeartbeats 4000000 in
set_option maxRecDepth 100000 in
theorem aVS (x0 x1 x2 x3 x4 x5 x6 x7 x8 x9 x10 x11 l0 l1 l2 l3:Int) (b0:0≤x0∧x0≤255) (b1:0≤x1∧x1≤9223372036854775807) (b2:0≤x2∧x2≤17592186043904) (b3:(-9223372036854775808)≤x3∧x3≤9223372036854775807) (b4:0≤x4∧x4≤9223372036854775807) (b5:0≤x5∧x5≤9223372036854775807) (b6:0≤x6∧x6≤9223372036854775807) (b7:0≤x7∧x7≤9223372036854775807) (b8:(-2147483648)≤x8∧x8≤2147483647) (b9:0≤x9∧x9≤9223372036854775807) (b10:0≤x10∧x10≤9223372036854775807) (b11:0≤x11∧x11≤9223372036854775807):gD Try.prog G GB 19 aU5 (cR ([x0,x1,x2,x3,x4,x5,x6,x7,x8,x9,x10,x11]++[l0,l1,l2,l3])):=by
 refine cX (lp:=aTk) (run:=aNu Try.prog) (fun _=>rfl) fits (bP (xs:=[x0,x1,x2,x3,x4,x5,x6,x7,x8,x9,x10,x11]) (ls:=[l0,l1,l2,l3]) (by exact⟨b0,b1,b2,b3,b4,b5,b6,b7,b8,b9,b10,b11,trivial⟩)) eS (fun X hX hG=>dA hX hG) (fun X hX hG fn c hf hc=>?_) rfl ?_
 ·refine kX ((congrArg bI (nM hf hc)).symm.trans aMb) ?_
  intro b hb
  simp only[List.mem_cons,List.mem_nil_iff,or_false]at hb
  subst hb
  refine iJ hX hG (by kernel_rfl) ?_
  intro p hp'
  simp only[List.mem_cons,List.mem_nil_iff,or_false]at hp'
  subst hp'
  exact aTG x0 x1 x2 x3 x4 x5 x6 x7 x8 x9 x10 x11 l0 l1 l2 l3
 ·skip
  refine aH aL0 ?_
  exact⟨rfl,trivial⟩
def aEr:Ctx→List SV→aM→Res (SV × aM):=dZ GB [(0,255),(0,9223372036854775807),(0,17592186043904),((-9223372036854775808),9223372036854775807),(0,9223372036854775807),(0,9223372036854775807),(0,9223372036854775807),(0,9223372036854775807),((-2147483648),2147483647),(0,9223372036854775807),(0,9223372036854775807),(0,9223372036854775807)] 4 (.lit true) aU5
theorem aWM {X:Ctx} {ρ:Nat→Int} (hX:X.Ok ρ) (hG:X.G=G):eU Try.prog X ρ GB 19 aEr:=by
 obtain⟨XG,XI,XV,XF⟩:=X
 simp only at hG
 subst hG
 refine cU hX ?_
 intro xs ls hw hl hp
 obtain⟨x0,y0,e0,b0,h0⟩:=aY hw
 obtain⟨x1,y1,e1,b1,h1⟩:=aY h0
 obtain⟨x2,y2,e2,b2,h2⟩:=aY h1
 obtain⟨x3,y3,e3,b3,h3⟩:=aY h2
 obtain⟨x4,y4,e4,b4,h4⟩:=aY h3
 obtain⟨x5,y5,e5,b5,h5⟩:=aY h4
 obtain⟨x6,y6,e6,b6,h6⟩:=aY h5
 obtain⟨x7,y7,e7,b7,h7⟩:=aY h6
 obtain⟨x8,y8,e8,b8,h8⟩:=aY h7
 obtain⟨x9,y9,e9,b9,h9⟩:=aY h8
 obtain⟨x10,y10,e10,b10,h10⟩:=aY h9
 obtain⟨x11,y11,e11,b11,h11⟩:=aY h10
 have e12:=jS h11
 subst e12 e11 e10 e9 e8 e7 e6 e5 e4 e3 e2 e1 e0
 obtain⟨l0,z0,q0,hl0⟩:=bJ hl
 obtain⟨l1,z1,q1,hl1⟩:=bJ hl0
 obtain⟨l2,z2,q2,hl2⟩:=bJ hl1
 obtain⟨l3,z3,q3,hl3⟩:=bJ hl2
 have q4:=List.length_eq_zero_iff.1 hl3
 subst q4 q3 q2 q1 q0
 exact aVS x0 x1 x2 x3 x4 x5 x6 x7 x8 x9 x10 x11 l0 l1 l2 l3 b0 b1 b2 b3 b4 b5 b6 b7 b8 b9 b10 b11
end Go.Proofs.Ytdldallkeheciaa
set_option maxRecDepth 100000
namespace Go.Proofs.Ytdldallkeheciaa
open Go Go.RowKit Sx Wi Lk
def aGt (P:Program) (fs:List B):Res SV:=cB G GI [] fs (fun X=>aA8 P X GB gN 20000 9 [])
def aJR:List B:=[]
theorem aKd:aGt Try.prog aJR = .ok (.bool (.cmp .eq (.lit 4) (.lit 4))):=by kernel_rfl
end Go.Proofs.Ytdldallkeheciaa
namespace Go.Proofs.Ytdldallkeheciaa
open Go Go.RowKit Sx Wi Lk
set_option maxRecDepth 100000 in
theorem aIG   (w:World) (hw:WOk GB w):fU Try.prog 9∧Calls Try.prog 9 #[] w (fun e w'=>e = .returned (.bool true)∧Below w.heap.size w w'):=by
 refine zE (rR (ρ:=cR []) (run:=fun fs=>aGt Try.prog fs) (fun _=>rfl) fits (lD trivial) eS (fun X hX hG=>dA hX hG) rfl rfl qF ?_ w hw)
 refine aH aKd ?_
 exact⟨rfl,rfl⟩
def pZ:nL:=fun _ args=>
 match args with
 |[] => .ok (.bool (.lit true))
 |_ => .fail 201
theorem aMf {X:Ctx} {ρ:Nat→Int} (hX:X.Ok ρ) (hG:X.G=G):iW Try.prog X ρ GB 9 pZ:=by
 obtain⟨XG,XI,XV,XF⟩:=X
 simp only at hG
 subst hG
 intro args s h α w vals hv hw
 unfold pZ at h
 split at h
 ·cases h
  exact dB hv rfl rfl (aIG w hw)
 ·cases h
def aTs:bA:=fT 11 (aBR aAO aAW) zU
theorem aLv {X:Ctx} {ρ:Nat→Int} (hX:X.Ok ρ) (hG:X.G=G):fF Try.prog X ρ GB aTs:=dM (aA4 (aVy hX hG) (aUb hX hG)) (lK hX hG)
def aTu:bA:=fT 19 aEr aTs
theorem aLG {X:Ctx} {ρ:Nat→Int} (hX:X.Ok ρ) (hG:X.G=G):fF Try.prog X ρ GB aTu:=dM (aWM hX hG) (aLv hX hG)
def aS5:bA:=kJ 9 pZ aTu
theorem aMi {X:Ctx} {ρ:Nat→Int} (hX:X.Ok ρ) (hG:X.G=G):fF Try.prog X ρ GB aS5:=fJ (aMf hX hG) (aLG hX hG)
def aXk:St:=⟨[.any,(.own 10 (.var 14) none),(.bool (.cmp .lt (.lit 0) (.var 15))),(.ptr 11 0),.any,.any,.any,(.int .u8 (.op .mul (.lit 255) (.var 15))),(.own 12 (.var 7) (some (.var 7))),(.int .i64 (.var 16)),.any,.any,.any,.any,.any,.any,.any,.any,.any,.any,.any,.any,.any,.any,.any,.any,.any,.any,.any,.any,.any,.any,.any,.any,.any,.any,.any,.any,.any,.any,.any,.any,.any,.any,.any,.any,.any,.any,.any,.any,.any,.any,.any,.any,.any,.any,.any,.any,.any,.any,.any,.any,.any,.any,.any,.any,.any,.any,.any,.any,.any,.any,.any,.any,.any,.any,.any,.any,.any,.any,.any,.any,.any,.any,.any,.any,.any,.any,.any,.any,.any,.any,.any,.any,.any,.any,.any,.any,.any],[some ([.vec [.int .i32,.int .i32] (.var 17) (.var 1) true],aF),some ([.vec [.int .i32,.int .i32] (.var 18) (.var 2) true],aF),some ([.vec [.int .i64] (.var 19) (.var 3) true],aF),some ([.vec [.int .i32,.int .i32] (.var 20) (.var 5) true],aF),some ([.vec [.int .i32,.int .i32] (.var 21) (.var 6) true],aF),some ([.vec [.int .u8] (.var 22) (.var 7) true],aF),some ([.vec [.int .i64] (.lit 0) (.lit 0) true],aF),some ([.vec [.int .i64] (.lit 0) (.lit 0) true],aF),some ([.vec [.int .i64] (.lit 0) (.lit 0) true],aF),some ([.vec [.int .i64] (.lit 0) (.lit 0) true],aF),some ([.vec [.int .i32] (.var 23) (.var 14) true],aF),some ([(.int .u8 (.var 0)),(.own 0 (.var 1) none),(.own 1 (.var 2) none),(.own 2 (.var 3) none),(.int .i64 (.var 4)),(.own 3 (.var 5) none),(.own 4 (.var 6) none),(.own 5 (.var 7) none),(.own 6 (.var 8) none),(.own 7 (.var 9) none),(.int .i32 (.var 10)),(.own 8 (.var 11) none),(.own 9 (.var 12) none),(.text (.var 13))],30),some ([.vec [.int .u8] (.var 24) (.var 7) true],aU+5)]⟩
def aWY:St:=⟨[.any,(.own 10 (.var 14) none),(.bool (.cmp .lt (.lit 0) (.var 15))),(.ptr 11 0),.any,.any,.any,.any,(.own 12 (.var 7) (some (.var 7))),.any,.any,.any,.any,.any,.any,.any,.any,.any,.any,.any,.any,.any,.any,.any,.any,.any,.any,.any,.any,.any,.any,.any,.any,.any,.any,.any,.any,.any,.any,.any,.any,.any,.any,.any,.any,.any,.any,.any,.any,.any,.any,.any,.any,.any,.any,.any,.any,.any,.any,.any,.any,.any,.any,.any,.any,.any,.any,.any,.any,.any,.any,.any,.any,.any,.any,.any,.any,.any,.any,.any,.any,.any,.any,.any,.any,.any,.any,.any,.any,.any,.any,.any,.any,.any,.any,.any,.any,.any,.any],[some ([.vec [.int .i32,.int .i32] (.var 16) (.var 1) true],aF),some ([.vec [.int .i32,.int .i32] (.var 17) (.var 2) true],aF),some ([.vec [.int .i64] (.var 18) (.var 3) true],aF),some ([.vec [.int .i32,.int .i32] (.var 19) (.var 5) true],aF),some ([.vec [.int .i32,.int .i32] (.var 20) (.var 6) true],aF),some ([.vec [.int .u8] (.var 21) (.var 7) true],aF),some ([.vec [.int .i64] (.lit 0) (.lit 0) true],aF),some ([.vec [.int .i64] (.lit 0) (.lit 0) true],aF),some ([.vec [.int .i64] (.lit 0) (.lit 0) true],aF),some ([.vec [.int .i64] (.lit 0) (.lit 0) true],aF),some ([.vec [.int .i32] (.var 22) (.var 14) true],aF),some ([(.int .u8 (.var 0)),(.own 0 (.var 1) none),(.own 1 (.var 2) none),(.own 2 (.var 3) none),(.int .i64 (.var 4)),(.own 3 (.var 5) none),(.own 4 (.var 6) none),(.own 5 (.var 7) none),(.own 6 (.var 8) none),(.own 7 (.var 9) none),(.int .i32 (.var 10)),(.own 8 (.var 11) none),(.own 9 (.var 12) none),(.text (.var 13))],30),some ([.vec [.int .u8] (.app 75 (.cons (.op .mul (.lit 255) (.var 15)) (.cons (.var 7) (.cons (.var 7) .nil)))) (.var 7) true],aU+5)]⟩
def aBm:List (Int × Int):=[(0,255),(0,9223372036854775807),(0,9223372036854775807),(0,17592186043904),((-9223372036854775808),9223372036854775807),(0,9223372036854775807),(0,9223372036854775807),(0,70000),(0,9223372036854775807),(0,9223372036854775807),((-2147483648),2147483647),(0,9223372036854775807),(0,9223372036854775807),(0,9223372036854775807),(0,9223372036854775807),(0,1),(0,70000)]
def aW1:LoopS:=⟨16,13,aXk,.lit true,.exit 0,aWY,.exit 0,aWY⟩
def aUd:LoopU:=⟨aW1,[(.var 0),(.var 1),(.var 2),(.var 3),(.var 4),(.var 5),(.var 6),(.var 7),(.var 8),(.var 9),(.var 10),(.var 11),(.var 12),(.var 13),(.var 14),(.var 15),(.lit 0),(.var 16),(.var 17),(.var 18),(.var 19),(.var 20),(.var 21),(.var 22),(.app 96 (.cons (.var 7) (.cons (.lit 0) .nil)))],aBm,.lit true⟩
def xJ (P:Program) (fs:List B):Res SV:=cB G GI aBm fs fun X=>oP P X GB gN dQ 4000 (cN (bW P 4) 0) aW1
end Go.Proofs.Ytdldallkeheciaa
set_option maxRecDepth 100000
namespace Go.Proofs.Ytdldallkeheciaa
open Go Go.RowKit Sx Wi Lk
def aJc (P:Program) (fs:List B):Res SV:=xJ P fs
def aGg:List B:=[]
def tA:B:=(.cmp .lt (.var 16) (.var 7))
def aPZ:List B:=aJ tA++aGg
def aHc:SV:=(.agg [(.int .i64 (.op .add (.var 16) (.lit 1))),(.int .i64 (.var 16)),(.int .i64 (.var 17)),(.int .i64 (.var 17)),(.int .i64 (.var 18)),(.int .i64 (.var 18)),(.int .i64 (.var 19)),(.int .i64 (.var 19)),(.int .i64 (.var 20)),(.int .i64 (.var 20)),(.int .i64 (.var 21)),(.int .i64 (.var 21)),(.int .i64 (.var 22)),(.int .i64 (.var 22)),(.int .i64 (.var 23)),(.int .i64 (.var 23)),(.int .i64 (.app 92 (.cons (.var 24) (.cons (.var 16) (.cons (.op .mul (.lit 255) (.var 15)) .nil))))),(.int .i64 (.var 24))])
def aO5:List B:=aJ (B.neg tA)++aGg
def aHP:SV:=(.tuple [(.agg [(.int .i64 (.var 17)),(.int .i64 (.var 16)),(.int .i64 (.var 18)),(.int .i64 (.var 17)),(.int .i64 (.var 19)),(.int .i64 (.var 18)),(.int .i64 (.var 20)),(.int .i64 (.var 19)),(.int .i64 (.var 21)),(.int .i64 (.var 20)),(.int .i64 (.var 22)),(.int .i64 (.var 21)),(.int .i64 (.var 23)),(.int .i64 (.var 22)),(.int .i64 (.var 24)),(.int .i64 (.app 75 (.cons (.op .mul (.lit 255) (.var 15)) (.cons (.var 7) (.cons (.var 7) .nil)))))]),(.bool (.lit true))])
theorem aOs:aJc Try.prog aPZ = .ok aHc:=by kernel_rfl
theorem aQ5:aJc Try.prog aO5 = .ok aHP:=by kernel_rfl
end Go.Proofs.Ytdldallkeheciaa
