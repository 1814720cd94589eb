/- What is proved: the run of a function over its ways,and what is known on each. No condition. -/
import Derived.Test.YtdldallkeheciaaQa9
import Derived.Test.YtdldallkeheciaaQNn
import Derived.Test.YtdldallkeheciaaQa1
import Derived.Test.YtdldallkeheciaaQg4
import Derived.Test.YtdldallkeheciaaProg
import Derived.Test.YtdldallkeheciaaQa7
import Derived.Test.YtdldallkeheciaaQg3
import Derived.Test.YtdldallkeheciaaQa8
set_option linter.unusedSimpArgs false
set_option linter.unusedVariables false
set_option maxRecDepth 100000
namespace Go.Proofs.Ytdldallkeheciaa
open Go Go.RowKit Sx Wi Lk
def aUm (P:Program) (fs:List B):Res SV:=aFW P fs
def aM1:List B:=[]
def aBq:B:=(.and (.and (.cmp .eq (.var 0) (.lit 1)) (.and (.cmp .lt (.lit 0) (.var 1)) (.and (.cmp .le (.var 1) (.lit 4)) (.and (B.neg (.or (.and (.cmp .lt (.lit 0) (.var 1)) (.cmp .le (.app 82 (.cons (.var 9) (.cons (.lit 0) (.cons (.lit 1) .nil)))) (.app 82 (.cons (.var 9) (.cons (.lit 0) (.cons (.lit 0) .nil)))))) (.or (.and (.cmp .lt (.lit 1) (.var 1)) (.cmp .le (.app 82 (.cons (.var 9) (.cons (.lit 1) (.cons (.lit 1) .nil)))) (.app 82 (.cons (.var 9) (.cons (.lit 1) (.cons (.lit 0) .nil)))))) (.or (.and (.cmp .lt (.lit 2) (.var 1)) (.cmp .le (.app 82 (.cons (.var 9) (.cons (.lit 2) (.cons (.lit 1) .nil)))) (.app 82 (.cons (.var 9) (.cons (.lit 2) (.cons (.lit 0) .nil)))))) (.and (.cmp .lt (.lit 3) (.var 1)) (.cmp .le (.app 82 (.cons (.var 9) (.cons (.lit 3) (.cons (.lit 1) .nil)))) (.app 82 (.cons (.var 9) (.cons (.lit 3) (.cons (.lit 0) .nil)))))))))) (.and (.cmp .lt (.lit 0) (.var 2)) (.and (.cmp .le (.var 2) (.lit 4)) (.and (B.neg (.or (.and (.cmp .lt (.lit 0) (.var 2)) (.cmp .lt (.app 82 (.cons (.var 10) (.cons (.lit 0) (.cons (.lit 1) .nil)))) (.app 82 (.cons (.var 10) (.cons (.lit 0) (.cons (.lit 0) .nil)))))) (.or (.and (.cmp .lt (.lit 1) (.var 2)) (.cmp .lt (.app 82 (.cons (.var 10) (.cons (.lit 1) (.cons (.lit 1) .nil)))) (.app 82 (.cons (.var 10) (.cons (.lit 1) (.cons (.lit 0) .nil)))))) (.or (.and (.cmp .lt (.lit 2) (.var 2)) (.cmp .lt (.app 82 (.cons (.var 10) (.cons (.lit 2) (.cons (.lit 1) .nil)))) (.app 82 (.cons (.var 10) (.cons (.lit 2) (.cons (.lit 0) .nil)))))) (.and (.cmp .lt (.lit 3) (.var 2)) (.cmp .lt (.app 82 (.cons (.var 10) (.cons (.lit 3) (.cons (.lit 1) .nil)))) (.app 82 (.cons (.var 10) (.cons (.lit 3) (.cons (.lit 0) .nil)))))))))) (.and (.cmp .eq (.var 3) (.var 1)) (.and (B.neg (.or (.and (.cmp .lt (.lit 0) (.var 3)) (.or (.cmp .lt (.app 83 (.cons (.var 11) (.cons (.lit 0) (.cons (.lit 0) .nil)))) (.lit 1)) (.cmp .lt (.lit 256) (.app 83 (.cons (.var 11) (.cons (.lit 0) (.cons (.lit 0) .nil))))))) (.or (.and (.cmp .lt (.lit 1) (.var 3)) (.or (.cmp .lt (.app 83 (.cons (.var 11) (.cons (.lit 1) (.cons (.lit 0) .nil)))) (.lit 1)) (.cmp .lt (.lit 256) (.app 83 (.cons (.var 11) (.cons (.lit 1) (.cons (.lit 0) .nil))))))) (.or (.and (.cmp .lt (.lit 2) (.var 3)) (.or (.cmp .lt (.app 83 (.cons (.var 11) (.cons (.lit 2) (.cons (.lit 0) .nil)))) (.lit 1)) (.cmp .lt (.lit 256) (.app 83 (.cons (.var 11) (.cons (.lit 2) (.cons (.lit 0) .nil))))))) (.or (.and (.cmp .lt (.lit 3) (.var 3)) (.or (.cmp .lt (.app 83 (.cons (.var 11) (.cons (.lit 3) (.cons (.lit 0) .nil)))) (.lit 1)) (.cmp .lt (.lit 256) (.app 83 (.cons (.var 11) (.cons (.lit 3) (.cons (.lit 0) .nil))))))) (.or (.and (.cmp .lt (.lit 4) (.var 3)) (.or (.cmp .lt (.app 83 (.cons (.var 11) (.cons (.lit 4) (.cons (.lit 0) .nil)))) (.lit 1)) (.cmp .lt (.lit 256) (.app 83 (.cons (.var 11) (.cons (.lit 4) (.cons (.lit 0) .nil))))))) (.or (.and (.cmp .lt (.lit 5) (.var 3)) (.or (.cmp .lt (.app 83 (.cons (.var 11) (.cons (.lit 5) (.cons (.lit 0) .nil)))) (.lit 1)) (.cmp .lt (.lit 256) (.app 83 (.cons (.var 11) (.cons (.lit 5) (.cons (.lit 0) .nil))))))) (.or (.and (.cmp .lt (.lit 6) (.var 3)) (.or (.cmp .lt (.app 83 (.cons (.var 11) (.cons (.lit 6) (.cons (.lit 0) .nil)))) (.lit 1)) (.cmp .lt (.lit 256) (.app 83 (.cons (.var 11) (.cons (.lit 6) (.cons (.lit 0) .nil))))))) (.and (.cmp .lt (.lit 7) (.var 3)) (.or (.cmp .lt (.app 83 (.cons (.var 11) (.cons (.lit 7) (.cons (.lit 0) .nil)))) (.lit 1)) (.cmp .lt (.lit 256) (.app 83 (.cons (.var 11) (.cons (.lit 7) (.cons (.lit 0) .nil))))))))))))))) (.and (.or (.cmp .eq (.var 4) (.lit 1)) (.or (.cmp .eq (.var 4) (.lit 2)) (.or (.cmp .eq (.var 4) (.lit 4)) (.or (.cmp .eq (.var 4) (.lit 8)) (.or (.cmp .eq (.var 4) (.lit 12)) (.cmp .eq (.var 4) (.lit 16))))))) (.and (.or (.cmp .eq (.var 5) (.lit 0)) (.cmp .eq (.var 5) (.var 1))) (.or (.cmp .eq (.var 6) (.lit 0)) (.cmp .eq (.var 6) (.var 2)))))))))))))) (.and (.cmp .le (.app 63 (.cons (.var 2) (.cons (.var 4) (.cons (.var 11) (.cons (.var 3) .nil))))) (.lit 524288)) (.cmp .le (.app 63 (.cons (.var 2) (.cons (.var 4) (.cons (.var 11) (.cons (.var 3) .nil))))) (.op .mul (.lit 8) (.var 7)))))
def aQX:List B:=aJ aBq++aM1
def aBV:B:=(.cmp .eq (.var 8) (.var 1))
def aNQ:List B:=aJ aBV++aQX
def aBv:B:=(.cmp .eq (.var 3) (.var 1))
def aRe:List B:=aJ aBv++aNQ
def aCs:B:=(.cmp .le (.lit 1) (.var 1))
def aO2:List B:=aJ aCs++aRe
def aBm:B:=(.cmp .le (.var 1) (.lit 4))
def aO8:List B:=aJ aBm++aO2
def aCE:B:=(.cmp .le (.lit 1) (.var 2))
def aOA:List B:=aJ aCE++aO8
def aBe:B:=(.cmp .le (.var 2) (.lit 4))
def aO1:List B:=aJ aBe++aOA
def aC2:B:=(.cmp .le (.lit 1) (.var 4))
def aOh:List B:=aJ aC2++aO1
def aBY:B:=(.cmp .le (.var 4) (.lit 16))
def aPT:List B:=aJ aBY++aOh
def aCm:B:=(.cmp .eq (.var 3) (.var 8))
def aJ2:List B:=aJ aCm++aPT
def yS:B:=(.cmp .le (.lit 1) (.var 3))
def aKh:List B:=aJ yS++aJ2
def aAd:B:=(.cmp .le (.var 3) (.lit 4))
def aME:List B:=aJ aAd++aKh
def yC:B:=(.cmp .le (.lit 1) (.var 8))
def aKe:List B:=aJ yC++aME
def zT:B:=(.cmp .le (.var 8) (.lit 4))
def aL4:List B:=aJ zT++aKe
def wY:B:=(.cmp .eq (.var 6) (.var 2))
def aLT:List B:=aJ wY++aL4
def zZ:B:=(.cmp .lt (.lit 0) (.var 6))
def aMg:List B:=aJ zZ++aLT
theorem aMd:aUm Try.prog aMg = .ok (.tuple [(.agg []),(.bool (.lit true))]):=by kernel_rfl
end Go.Proofs.Ytdldallkeheciaa
set_option maxRecDepth 100000
namespace Go.Proofs.Ytdldallkeheciaa
open Go Go.RowKit Sx Wi Lk
def aIP (P:Program) (fs:List B):Res SV:=uV P fs
def aF8:List B:=[]
def mD:B:=(.cmp .lt (.var 9) (.var 2))
def aPn:List B:=aJ mD++aF8
def aCN:B:=(.cmp .eq (.var 3) (.var 8))
def aNW:List B:=aJ aCN++aPn
def aCv:B:=(gdB (.var 12) (.app 65 (.cons (.var 10) (.cons (.var 12) (.cons (.var 13) (.cons (.var 5) (.cons (.var 16) (.cons (.var 8) (.cons (.var 8) .nil)))))))) (.var 3))
def aOL:List B:=aJ aCv++aNW
def aBy:B:=(.cmp .eq (.var 6) (.var 2))
def aQ3:List B:=aJ aBy++aOL
def aBC:B:=(.cmp .lt (.var 9) (.var 6))
def aPz:List B:=aJ aBC++aQ3
def aBj:B:=(.and (.cmp .le (.app 76 (.cons (.var 12) (.cons (.var 15) (.cons (.var 7) (.cons (.var 4) (.cons (.var 2) (.cons (.app 65 (.cons (.var 10) (.cons (.var 12) (.cons (.var 13) (.cons (.var 5) (.cons (.var 16) (.cons (.var 8) (.cons (.var 8) .nil)))))))) (.cons (.var 3) (.cons (.var 9) (.cons (.op .shl (.lit 1) (.var 3)) .nil)))))))))) (.op .mul (.op .sub (.op .shl (.lit 1) (.var 4)) (.lit 1)) (.op .shl (.lit 1) (.op .mul (.lit 16) (.var 3))))) (.cmp .le (.lit 0) (.app 76 (.cons (.var 12) (.cons (.var 15) (.cons (.var 7) (.cons (.var 4) (.cons (.var 2) (.cons (.app 65 (.cons (.var 10) (.cons (.var 12) (.cons (.var 13) (.cons (.var 5) (.cons (.var 16) (.cons (.var 8) (.cons (.var 8) .nil)))))))) (.cons (.var 3) (.cons (.var 9) (.cons (.op .shl (.lit 1) (.var 3)) .nil))))))))))))
def aQG:List B:=aJ aBj++aPz
def aG7:SV:=(.agg [(.int .i64 (.op .add (.var 9) (.lit 1))),(.int .i64 (.var 9)),(.int .i64 (.var 10)),(.int .i64 (.var 10)),(.int .i64 (.var 11)),(.int .i64 (.var 11)),(.int .i64 (.var 12)),(.int .i64 (.var 12)),(.int .i64 (.var 13)),(.int .i64 (.var 13)),(.int .i64 (.var 14)),(.int .i64 (.var 14)),(.int .i64 (.var 15)),(.int .i64 (.var 15)),(.int .i64 (.var 16)),(.int .i64 (.var 16)),(.int .i64 (.app 65 (.cons (.var 10) (.cons (.var 12) (.cons (.var 13) (.cons (.var 5) (.cons (.var 16) (.cons (.var 8) (.cons (.var 8) .nil))))))))),(.int .i64 (.app 65 (.cons (.var 10) (.cons (.var 12) (.cons (.var 13) (.cons (.var 5) (.cons (.var 16) (.cons (.var 8) (.cons (.var 8) .nil))))))))),(.int .i64 (.app 92 (.cons (.var 17) (.cons (.var 9) (.cons (.op .min (.op .max (.app 68 (.cons (.var 3) (.cons (.var 4) (.cons (.app 82 (.cons (.var 14) (.cons (.var 9) (.cons (.lit 0) .nil)))) (.cons (.app 82 (.cons (.var 14) (.cons (.var 9) (.cons (.lit 1) .nil)))) (.cons (.app 76 (.cons (.var 12) (.cons (.var 15) (.cons (.var 7) (.cons (.var 4) (.cons (.var 2) (.cons (.app 65 (.cons (.var 10) (.cons (.var 12) (.cons (.var 13) (.cons (.var 5) (.cons (.var 16) (.cons (.var 8) (.cons (.var 8) .nil)))))))) (.cons (.var 3) (.cons (.var 9) (.cons (.op .shl (.lit 1) (.var 3)) .nil)))))))))) .nil)))))) (.app 82 (.cons (.var 11) (.cons (.var 9) (.cons (.lit 0) .nil))))) (.app 82 (.cons (.var 11) (.cons (.var 9) (.cons (.lit 1) .nil))))) .nil))))),(.int .i64 (.var 17))])
def aMj:List B:=aJ (B.neg mD)++aF8
def aGH:SV:=(.tuple [(.agg [(.int .i64 (.var 10)),(.int .i64 (.var 9)),(.int .i64 (.var 11)),(.int .i64 (.var 10)),(.int .i64 (.var 12)),(.int .i64 (.var 11)),(.int .i64 (.var 13)),(.int .i64 (.var 12)),(.int .i64 (.var 14)),(.int .i64 (.var 13)),(.int .i64 (.var 15)),(.int .i64 (.var 14)),(.int .i64 (.var 16)),(.int .i64 (.var 15)),(.int .i64 (.app 65 (.cons (.var 10) (.cons (.var 12) (.cons (.var 13) (.cons (.var 5) (.cons (.var 16) (.cons (.var 8) (.cons (.var 8) .nil))))))))),(.int .i64 (.app 65 (.cons (.var 9) (.cons (.var 11) (.cons (.var 12) (.cons (.var 5) (.cons (.var 15) (.cons (.var 8) (.cons (.var 8) .nil))))))))),(.int .i64 (.var 17)),(.int .i64 (.app 73 (.cons (.var 11) (.cons (.var 14) (.cons (.var 7) (.cons (.var 4) (.cons (.var 13) (.cons (.var 10) (.cons (.var 2) (.cons (.app 65 (.cons (.var 9) (.cons (.var 11) (.cons (.var 12) (.cons (.var 5) (.cons (.var 15) (.cons (.var 8) (.cons (.var 8) .nil)))))))) (.cons (.var 3) (.cons (.var 2) .nil))))))))))))]),(.bool (.lit true))])
theorem aP6:aIP Try.prog aQG = .ok aG7:=by kernel_rfl
theorem aLU:aIP Try.prog aMj = .ok aGH:=by kernel_rfl
end Go.Proofs.Ytdldallkeheciaa
namespace Go.Proofs.Ytdldallkeheciaa
open Go Go.RowKit Sx Wi Lk
def eA (x0 x1 x2 x3 x4 x5 x6 x7 x8 l0 l1 l2 l3 l4 l5 l6:Int) (j:Nat):Nat→Int:=cQ ([x0,x1,x2,x3,x4,x5,x6,x7,x8,(j:Int)]++[l0,l1,l2,l3,l4,l5,l6,G 73 [l2,l5,x7,x4,l4,l1,x2,(G 65 [l0,l2,l3,x5,l6,x8,x8]),x3,(j:Int)]])
theorem aK4 (x0 x1 x2 x3 x4 x5 x6 x7 x8 l0 l1 l2 l3 l4 l5 l6:Int) (b0:0≤x0∧x0≤255) (b1:1≤x1∧x1≤4) (b2:1≤x2∧x2≤4) (b3:1≤x3∧x3≤4) (b4:1≤x4∧x4≤16) (b5:0≤x5∧x5≤8) (b6:0≤x6∧x6≤8) (b7:0≤x7∧x7≤70000) (b8:1≤x8∧x8≤4) (j:Nat) (hj:(j:Int)≤x2):∀ k q,uM[k]?=some q→q.1≤eA x0 x1 x2 x3 x4 x5 x6 x7 x8 l0 l1 l2 l3 l4 l5 l6 j k∧eA x0 x1 x2 x3 x4 x5 x6 x7 x8 l0 l1 l2 l3 l4 l5 l6 j k≤q.2:=by
 unfold eA uM
 exact bP (xs:=[x0,x1,x2,x3,x4,x5,x6,x7,x8,(j:Int)]) (by exact⟨b0,b1,b2,b3,b4,b5,b6,b7,b8,by omega,trivial⟩)
theorem aLM (x0 x1 x2 x3 x4 x5 x6 x7 x8 l0 l1 l2 l3 l4 l5 l6:Int) (tb:oR x0 x1 x2 x3 x4 x5 x6 l0 l1 l2) (e8:x8=x1):eK l2 (G 65 [l0,l2,l3,x5,l6,x8,x8]) x3:=by
 obtain⟨_,_,_,_,_,t3,tS,_⟩:=tb
 have e:x8=x3:=by omega
 rw[e]
 exact aSu tS
set_option maxHeartbeats 4000000 in
set_option maxRecDepth 100000 in
theorem aNJ (x0 x1 x2 x3 x4 x5 x6 x7 x8 l0 l1 l2 l3 l4 l5 l6:Int) (b0:0≤x0∧x0≤255) (b1:1≤x1∧x1≤4) (b2:1≤x2∧x2≤4) (b3:1≤x3∧x3≤4) (b4:1≤x4∧x4≤16) (b5:0≤x5∧x5≤8) (b6:0≤x6∧x6≤8) (b7:0≤x7∧x7≤70000) (b8:1≤x8∧x8≤4) (tb:oR x0 x1 x2 x3 x4 x5 x6 l0 l1 l2) (e8:x8=x1) (e6:x6=x2) (j:Nat) (hj:(j:Int)≤x2):Sx.Way (uV Try.prog) G (eA x0 x1 x2 x3 x4 x5 x6 x7 x8 l0 l1 l2 l3 l4 l5 l6 j) (cM G (eA x0 x1 x2 x3 x4 x5 x6 x7 x8 l0 l1 l2 l3 l4 l5 l6) (cQ ([x0,x1,x2,x3,x4,x5,x6,x7,x8]++[l0,l1,l2,l3,l4,l5,l6])) 9 (.lit true) (fun j=>(j:Int)≤x2) (fun j=>x2.toNat-j) j) []:=by
 have hr:=aLM x0 x1 x2 x3 x4 x5 x6 x7 x8 l0 l1 l2 l3 l4 l5 l6 tb e8
 have e3:x3=x8:=by have:=tb.2.2.2.2.2.1;omega
 clear tb
 refine aG mD (fun h0=>?_) (fun h0=>?_)
 rotate_left
 ·skip
  refine aH aLU ?_
  unfold mD at h0;unfold aGH;simp only[nn,eA,List.cons_append,List.nil_append,Bool.or_eq_true,aP,ne_eq]at h0;have he:(j:Int)=x2:=(by omega);clear h0;simp only[cM];refine⟨rfl,(fun k hk=>by (match k,hk with|0,_=>rfl|1,_=>rfl|2,_=>rfl|3,_=>rfl|4,_=>rfl|5,_=>rfl|6,_=>rfl|7,_=>rfl|8,_=>rfl)),?_⟩;simp only[aI];simp only[nn,eA,List.cons_append,List.nil_append,Bool.or_eq_true,aP,ne_eq];rw[he];(repeat' refine And.intro ?_ ?_)<;>first|with_reducible rfl|trivial
 refine aG aCN (fun h1=>?_) (fun h1=>?_)
 rotate_left
 ·skip
  refine aQ ?_
  unfold mD at h0;unfold aCN at h1;exfalso;have z:=h0;have z1:=h1;clear h0 h1;simp only[nn,eA,List.cons_append,List.nil_append,Bool.or_eq_true,aP,ne_eq]at z z1;omega
 refine aG aCv (fun h2=>?_) (fun h2=>?_)
 rotate_left
 ·skip
  refine aQ ?_
  unfold aCv at h2;exfalso;have z:B.den G (eA x0 x1 x2 x3 x4 x5 x6 x7 x8 l0 l1 l2 l3 l4 l5 l6 j) (gdB (.var 12) (.app 65 (.cons (.var 10) (.cons (.var 12) (.cons (.var 13) (.cons (.var 5) (.cons (.var 16) (.cons (.var 8) (.cons (.var 8) .nil)))))))) (.var 3))=true:=(tI (ρ:=eA x0 x1 x2 x3 x4 x5 x6 x7 x8 l0 l1 l2 l3 l4 l5 l6 j) (S := .var 12) (L:=(.app 65 (.cons (.var 10) (.cons (.var 12) (.cons (.var 13) (.cons (.var 5) (.cons (.var 16) (.cons (.var 8) (.cons (.var 8) .nil))))))))) (m := .var 3) b3.2).2 hr;rw[h2]at z;cases z
 refine aG aBy (fun h3=>?_) (fun h3=>?_)
 rotate_left
 ·skip
  refine aQ ?_
  unfold mD at h0;unfold aBy at h3;exfalso;have z:=h0;have z1:=h3;clear h0 h1 h2 h3;simp only[nn,eA,List.cons_append,List.nil_append,Bool.or_eq_true,aP,ne_eq]at z z1;omega
 refine aG aBC (fun h4=>?_) (fun h4=>?_)
 rotate_left
 ·skip
  refine aQ ?_
  unfold mD at h0;unfold aBC at h4;exfalso;have z:=h0;have z1:=h4;clear h0 h1 h2 h3 h4;simp only[nn,eA,List.cons_append,List.nil_append,Bool.or_eq_true,aP,ne_eq]at z z1;omega
 refine aG aBj (fun h5=>?_) (fun h5=>?_)
 ·skip
  refine aH aP6 ?_
  unfold mD at h0;unfold aG7;have z:=h0;clear h0 h1 h2 h3 h4 h5;simp only[nn,eA,List.cons_append,List.nil_append,Bool.or_eq_true,aP,ne_eq]at z;have key:=aAS (S:=l2) (B:=l5) (nB:=x7) (bits:=x4) (C:=l4) (R:=l1) (L:=(G 65 [l0,l2,l3,x5,l6,x8,x8])) (m:=x3) z;have hm:x2.toNat-(j+1)<x2.toNat-j:=(by omega);have hg:((j+1:Nat):Int)≤x2:=(by omega);clear z;simp only[cM];refine⟨j+1,hg,hm,(fun k hk=>by (match k,hk with|0,_=>rfl|1,_=>rfl|2,_=>rfl|3,_=>rfl|4,_=>rfl|5,_=>rfl|6,_=>rfl|7,_=>rfl|8,_=>rfl)),?_⟩;simp only[aI];simp only[nn,eA,List.cons_append,List.nil_append,Bool.or_eq_true,aP,ne_eq];rw[key];(repeat' refine And.intro ?_ ?_)<;>first|with_reducible rfl|trivial|omega
 refine aQ ?_
 unfold aBj at h5;exfalso;obtain⟨s0,s1⟩:=aGr (B:=l5) (nB:=x7) (bits:=x4) (nR:=x2) hr ⟨by omega,b3.2⟩ b4 (j:Int);have e0:(65536:Int) ^ x3.toNat=1*2 ^ (16*x3).toNat:=p16 b3;rw[e0]at s1;clear h0 h1 h2 h3 h4;(try simp only[Bool.and_eq_false_iff]at h5);apply absurd h5;rw[Bool.not_eq_false];simp only[nn,eA,List.cons_append,List.nil_append,Bool.or_eq_true,aP,ne_eq];exact⟨s1,s0⟩
set_option maxHeartbeats 4000000 in
set_option maxRecDepth 100000 in
theorem aIj (x0 x1 x2 x3 x4 x5 x6 x7 x8 l0 l1 l2 l3 l4 l5 l6:Int) (tb:oR x0 x1 x2 x3 x4 x5 x6 l0 l1 l2) (e8:x8=x1):gE Try.prog G (bN GB) (cN (bV Try.prog 11) 0) aEF (cQ ([x0,x1,x2,x3,x4,x5,x6,x7,x8]++[l0,l1,l2,l3,l4,l5,l6])):=by
 intro hw _
 have hb:eJ tH ([x0,x1,x2,x3,x4,x5,x6,x7,x8]++[0]):=hw
 unfold tH at hb
 simp only[List.cons_append,List.nil_append]at hb
 obtain⟨b0,b1,b2,b3,b4,b5,b6,b7,b8,_⟩:=hb
 have e:gC G (cQ ([x0,x1,x2,x3,x4,x5,x6,x7,x8]++[l0,l1,l2,l3,l4,l5,l6])) aEF.es=eM x0 x1 x2 x3 x4 x5 x6 x7 x8 l0 l1 l2 l3 l4 l5 l6 0:=by
  rw[eG]
  unfold eM
  rw[show ((0:Nat):Int)=0 from rfl,←aHm (D:=l0) (S:=l2) (En:=l3) (nE:=x5) (IN:=l6)]
  rfl
 rw[e]
 exact⟨x8.toNat+1,iV (ι:=Nat) (ρ:=eM x0 x1 x2 x3 x4 x5 x6 x7 x8 l0 l1 l2 l3 l4 l5 l6) (ρT:=(cQ ([x0,x1,x2,x3,x4,x5,x6,x7,x8]++[l0,l1,l2,l3,l4,l5,l6]))) (m:=fun j=>x8.toNat-j) (Good:=fun j=>(j:Int)≤x8) (run:=sQ Try.prog) (f:=11) (fun _=>rfl) fits rfl eU (fun j hj=>aGU x0 x1 x2 x3 x4 x5 x6 x7 x8 l0 l1 l2 l3 l4 l5 l6 b0 b1 b2 b3 b4 b5 b6 b7 b8 j hj) (fun _ _ X hX hG=>lK hX hG) (fun _ _ X hX hG=>cF) (fun j hj=>aMv x0 x1 x2 x3 x4 x5 x6 x7 x8 l0 l1 l2 l3 l4 l5 l6 b0 b1 b2 b3 b4 b5 b6 b7 b8 tb e8 j hj) (by decide) (fun x hx=>by rw[aDv]at hx;cases hx) _ 0 (by show ((0:Nat):Int)≤x8;omega) (by show x8.toNat-0<x8.toNat+1;omega)⟩
set_option maxHeartbeats 4000000 in
set_option maxRecDepth 100000 in
theorem aIc (x0 x1 x2 x3 x4 x5 x6 x7 x8 l0 l1 l2 l3 l4 l5 l6:Int) (tb:oR x0 x1 x2 x3 x4 x5 x6 l0 l1 l2) (e8:x8=x1) (e6:x6=x2):gE Try.prog G (bN GB) (cN (bV Try.prog 11) 1) aEE (cQ ([x0,x1,x2,x3,x4,x5,x6,x7,x8]++[l0,l1,l2,l3,l4,l5,l6])):=by
 intro hw _
 have hb:eJ uM ([x0,x1,x2,x3,x4,x5,x6,x7,x8]++[0]):=hw
 unfold uM at hb
 simp only[List.cons_append,List.nil_append]at hb
 obtain⟨b0,b1,b2,b3,b4,b5,b6,b7,b8,_⟩:=hb
 have e:gC G (cQ ([x0,x1,x2,x3,x4,x5,x6,x7,x8]++[l0,l1,l2,l3,l4,l5,l6])) aEE.es=eA x0 x1 x2 x3 x4 x5 x6 x7 x8 l0 l1 l2 l3 l4 l5 l6 0:=by
  rw[eG]
  unfold eA
  rw[show ((0:Nat):Int)=0 from rfl,←aAy (S:=l2) (B:=l5) (nB:=x7) (bits:=x4) (C:=l4) (R:=l1) (L:=G 65 [l0,l2,l3,x5,l6,x8,x8]) (m:=x3)]
  rfl
 rw[e]
 exact⟨x2.toNat+1,iV (ι:=Nat) (ρ:=eA x0 x1 x2 x3 x4 x5 x6 x7 x8 l0 l1 l2 l3 l4 l5 l6) (ρT:=(cQ ([x0,x1,x2,x3,x4,x5,x6,x7,x8]++[l0,l1,l2,l3,l4,l5,l6]))) (m:=fun j=>x2.toNat-j) (Good:=fun j=>(j:Int)≤x2) (run:=uV Try.prog) (f:=11) (fun _=>rfl) fits rfl eU (fun j hj=>aK4 x0 x1 x2 x3 x4 x5 x6 x7 x8 l0 l1 l2 l3 l4 l5 l6 b0 b1 b2 b3 b4 b5 b6 b7 b8 j hj) (fun _ _ X hX hG=>lK hX hG) (fun _ _ X hX hG=>cF) (fun j hj=>aNJ x0 x1 x2 x3 x4 x5 x6 x7 x8 l0 l1 l2 l3 l4 l5 l6 b0 b1 b2 b3 b4 b5 b6 b7 b8 tb e8 e6 j hj) (by decide) (fun x hx=>by rw[aDG]at hx;exact Option.mem_toList.1 hx) _ 0 (by show ((0:Nat):Int)≤x2;omega) (by show x2.toNat-0<x2.toNat+1;omega)⟩
set_option maxHeartbeats 8000000 in
set_option maxRecDepth 100000 in
theorem aRp (x0 x1 x2 x3 x4 x5 x6 x7 x8 l0 l1 l2 l3 l4 l5 l6:Int) (b0:0≤x0∧x0≤255) (b1:0≤x1∧x1≤8) (b2:0≤x2∧x2≤8) (b3:0≤x3∧x3≤8) (b4:(-9223372036854775808)≤x4∧x4≤9223372036854775807) (b5:0≤x5∧x5≤8) (b6:0≤x6∧x6≤8) (b7:0≤x7∧x7≤70000) (b8:0≤x8∧x8≤8) (hp:aBi.den G (cQ ([x0,x1,x2,x3,x4,x5,x6,x7,x8]++[l0,l1,l2,l3,l4,l5,l6]))=true):fX Try.prog G GB 11 aJB (cQ ([x0,x1,x2,x3,x4,x5,x6,x7,x8]++[l0,l1,l2,l3,l4,l5,l6])):=by
 have hq:=hp
 unfold aBi at hq
 rw[aZ,aZ,Bool.and_eq_true,Bool.and_eq_true]at hq
 have tb:=mY (x0:=x0) (x1:=x1) (x2:=x2) (x3:=x3) (x4:=x4) (x5:=x5) (x6:=x6) (x7:=x7) (D:=l0) (R:=l1) (S:=l2) (ls:=[]) hq.1.1
 have hz:=hq.2
 simp only[nn,List.cons_append,List.nil_append,Bool.or_eq_true,aP,ne_eq]at hz
 obtain⟨e8,e6,e60⟩:=hz
 refine cY (lp:=aL8) (run:=aFW Try.prog) (fun _=>rfl) fits (bP (xs:=[x0,x1,x2,x3,x4,x5,x6,x7,x8]) (ls:=[l0,l1,l2,l3,l4,l5,l6]) (by exact⟨b0,b1,b2,b3,b4,b5,b6,b7,b8,trivial⟩)) eU (fun X hX hG=>lK hX hG) (fun X hX hG fn c hf hc=>?_) rfl ?_
 ·refine kS ((congrArg bI (nG hf hc)).symm.trans aIk) ?_
  intro b hb
  simp only[List.mem_cons,List.mem_nil_iff,or_false]at hb
  rcases hb with rfl|rfl
  ·refine iX hX hG (by kernel_rfl) ?_
   intro p hp'
   simp only[List.mem_cons,List.mem_nil_iff,or_false]at hp'
   subst hp'
   exact aIj x0 x1 x2 x3 x4 x5 x6 x7 x8 l0 l1 l2 l3 l4 l5 l6 tb e8
  ·refine qO (j:=17) (by kernel_rfl) (by decide) (iX hX hG (by kernel_rfl) ?_)
   intro p hp'
   simp only[List.mem_cons,List.mem_nil_iff,or_false]at hp'
   subst hp'
   exact aIc x0 x1 x2 x3 x4 x5 x6 x7 x8 l0 l1 l2 l3 l4 l5 l6 tb e8 e6
 ·skip
  refine aG aBq (fun h0=>?_) (fun h0=>?_)
  rotate_left
  ·skip
   refine aQ ?_
   unfold aBq at h0;exfalso;rw[aZ,hq.1.1,hq.1.2]at h0;cases h0
  refine aG aBV (fun h1=>?_) (fun h1=>?_)
  rotate_left
  ·skip
   refine aQ ?_
   unfold aBV at h1;exfalso;have z:=h1;clear h0 h1 hq hp;obtain⟨t0,t1,tD,t2,tR,t3,tS,t4,t5,t6⟩:=tb;clear tD tR tS;simp only[nn,List.cons_append,List.nil_append,Bool.or_eq_true,aP,ne_eq]at z;omega
  refine aG aBv (fun h2=>?_) (fun h2=>?_)
  rotate_left
  ·skip
   refine aQ ?_
   unfold aBv at h2;exfalso;have z:=h2;clear h0 h1 h2 hq hp;obtain⟨t0,t1,tD,t2,tR,t3,tS,t4,t5,t6⟩:=tb;clear tD tR tS;simp only[nn,List.cons_append,List.nil_append,Bool.or_eq_true,aP,ne_eq]at z;omega
  refine aG aCs (fun h3=>?_) (fun h3=>?_)
  rotate_left
  ·skip
   refine aQ ?_
   unfold aCs at h3;exfalso;have z:=h3;clear h0 h1 h2 h3 hq hp;obtain⟨t0,t1,tD,t2,tR,t3,tS,t4,t5,t6⟩:=tb;clear tD tR tS;simp only[nn,List.cons_append,List.nil_append,Bool.or_eq_true,aP,ne_eq]at z;omega
  refine aG aBm (fun h4=>?_) (fun h4=>?_)
  rotate_left
  ·skip
   refine aQ ?_
   unfold aBm at h4;exfalso;have z:=h4;clear h0 h1 h2 h3 h4 hq hp;obtain⟨t0,t1,tD,t2,tR,t3,tS,t4,t5,t6⟩:=tb;clear tD tR tS;simp only[nn,List.cons_append,List.nil_append,Bool.or_eq_true,aP,ne_eq]at z;omega
  refine aG aCE (fun h5=>?_) (fun h5=>?_)
  rotate_left
  ·skip
   refine aQ ?_
   unfold aCE at h5;exfalso;have z:=h5;clear h0 h1 h2 h3 h4 h5 hq hp;obtain⟨t0,t1,tD,t2,tR,t3,tS,t4,t5,t6⟩:=tb;clear tD tR tS;simp only[nn,List.cons_append,List.nil_append,Bool.or_eq_true,aP,ne_eq]at z;omega
  refine aG aBe (fun h6=>?_) (fun h6=>?_)
  rotate_left
  ·skip
   refine aQ ?_
   unfold aBe at h6;exfalso;have z:=h6;clear h0 h1 h2 h3 h4 h5 h6 hq hp;obtain⟨t0,t1,tD,t2,tR,t3,tS,t4,t5,t6⟩:=tb;clear tD tR tS;simp only[nn,List.cons_append,List.nil_append,Bool.or_eq_true,aP,ne_eq]at z;omega
  refine aG aC2 (fun h7=>?_) (fun h7=>?_)
  rotate_left
  ·skip
   refine aQ ?_
   unfold aC2 at h7;exfalso;have z:=h7;clear h0 h1 h2 h3 h4 h5 h6 h7 hq hp;obtain⟨t0,t1,tD,t2,tR,t3,tS,t4,t5,t6⟩:=tb;clear tD tR tS;simp only[nn,List.cons_append,List.nil_append,Bool.or_eq_true,aP,ne_eq]at z;omega
  refine aG aBY (fun h8=>?_) (fun h8=>?_)
  rotate_left
  ·skip
   refine aQ ?_
   unfold aBY at h8;exfalso;have z:=h8;clear h0 h1 h2 h3 h4 h5 h6 h7 h8 hq hp;obtain⟨t0,t1,tD,t2,tR,t3,tS,t4,t5,t6⟩:=tb;clear tD tR tS;simp only[nn,List.cons_append,List.nil_append,Bool.or_eq_true,aP,ne_eq]at z;omega
  refine aG aCm (fun h9=>?_) (fun h9=>?_)
  rotate_left
  ·skip
   refine aQ ?_
   unfold aCm at h9;exfalso;have z:=h9;clear h0 h1 h2 h3 h4 h5 h6 h7 h8 h9 hq hp;obtain⟨t0,t1,tD,t2,tR,t3,tS,t4,t5,t6⟩:=tb;clear tD tR tS;simp only[nn,List.cons_append,List.nil_append,Bool.or_eq_true,aP,ne_eq]at z;omega
  refine aG yS (fun h10=>?_) (fun h10=>?_)
  rotate_left
  ·skip
   refine aQ ?_
   unfold yS at h10;exfalso;have z:=h10;clear h0 h1 h2 h3 h4 h5 h6 h7 h8 h9 h10 hq hp;obtain⟨t0,t1,tD,t2,tR,t3,tS,t4,t5,t6⟩:=tb;clear tD tR tS;simp only[nn,List.cons_append,List.nil_append,Bool.or_eq_true,aP,ne_eq]at z;omega
  refine aG aAd (fun h11=>?_) (fun h11=>?_)
  rotate_left
  ·skip
   refine aQ ?_
   unfold aAd at h11;exfalso;have z:=h11;clear h0 h1 h2 h3 h4 h5 h6 h7 h8 h9 h10 h11 hq hp;obtain⟨t0,t1,tD,t2,tR,t3,tS,t4,t5,t6⟩:=tb;clear tD tR tS;simp only[nn,List.cons_append,List.nil_append,Bool.or_eq_true,aP,ne_eq]at z;omega
  refine aG yC (fun h12=>?_) (fun h12=>?_)
  rotate_left
  ·skip
   refine aQ ?_
   unfold yC at h12;exfalso;have z:=h12;clear h0 h1 h2 h3 h4 h5 h6 h7 h8 h9 h10 h11 h12 hq hp;obtain⟨t0,t1,tD,t2,tR,t3,tS,t4,t5,t6⟩:=tb;clear tD tR tS;simp only[nn,List.cons_append,List.nil_append,Bool.or_eq_true,aP,ne_eq]at z;omega
  refine aG zT (fun h13=>?_) (fun h13=>?_)
  rotate_left
  ·skip
   refine aQ ?_
   unfold zT at h13;exfalso;have z:=h13;clear h0 h1 h2 h3 h4 h5 h6 h7 h8 h9 h10 h11 h12 h13 hq hp;obtain⟨t0,t1,tD,t2,tR,t3,tS,t4,t5,t6⟩:=tb;clear tD tR tS;simp only[nn,List.cons_append,List.nil_append,Bool.or_eq_true,aP,ne_eq]at z;omega
  refine aG wY (fun h14=>?_) (fun h14=>?_)
  rotate_left
  ·skip
   refine aQ ?_
   unfold wY at h14;exfalso;have z:=h14;clear h0 h1 h2 h3 h4 h5 h6 h7 h8 h9 h10 h11 h12 h13 h14 hq hp;obtain⟨t0,t1,tD,t2,tR,t3,tS,t4,t5,t6⟩:=tb;clear tD tR tS;simp only[nn,List.cons_append,List.nil_append,Bool.or_eq_true,aP,ne_eq]at z;omega
  refine aG zZ (fun h15=>?_) (fun h15=>?_)
  ·skip
   refine aH aMd ?_
   exact⟨rfl,trivial⟩
  refine aQ ?_
  unfold zZ at h15;exfalso;have z:=h15;clear h0 h1 h2 h3 h4 h5 h6 h7 h8 h9 h10 h11 h12 h13 h14 h15 hq hp;obtain⟨t0,t1,tD,t2,tR,t3,tS,t4,t5,t6⟩:=tb;clear tD tR tS;simp only[nn,List.cons_append,List.nil_append,Bool.or_eq_true,aP,ne_eq]at z;omega
def aAH:Ctx→List SV→aM→Res (SV × aM):=dW GB [(0,255),(0,8),(0,8),(0,8),((-9223372036854775808),9223372036854775807),(0,8),(0,8),(0,70000),(0,8)] 7 aBi aJB
theorem aTA {X:Ctx} {ρ:Nat→Int} (hX:X.Ok ρ) (hG:X.G=G):eV Try.prog X ρ GB 11 aAH:=by
 obtain⟨XG,XI,XV,XF⟩:=X
 simp only at hG
 subst hG
 refine cU hX ?_
 intro xs ls hw hl hp
 obtain⟨x0,y0,e0,b0,h0⟩:=aY hw
 obtain⟨x1,y1,e1,b1,h1⟩:=aY h0
 obtain⟨x2,y2,e2,b2,h2⟩:=aY h1
 obtain⟨x3,y3,e3,b3,h3⟩:=aY h2
 obtain⟨x4,y4,e4,b4,h4⟩:=aY h3
 obtain⟨x5,y5,e5,b5,h5⟩:=aY h4
 obtain⟨x6,y6,e6,b6,h6⟩:=aY h5
 obtain⟨x7,y7,e7,b7,h7⟩:=aY h6
 obtain⟨x8,y8,e8,b8,h8⟩:=aY h7
 have e9:=jJ h8
 subst e9 e8 e7 e6 e5 e4 e3 e2 e1 e0
 obtain⟨l0,z0,q0,hl0⟩:=bJ hl
 obtain⟨l1,z1,q1,hl1⟩:=bJ hl0
 obtain⟨l2,z2,q2,hl2⟩:=bJ hl1
 obtain⟨l3,z3,q3,hl3⟩:=bJ hl2
 obtain⟨l4,z4,q4,hl4⟩:=bJ hl3
 obtain⟨l5,z5,q5,hl5⟩:=bJ hl4
 obtain⟨l6,z6,q6,hl6⟩:=bJ hl5
 have q7:=List.length_eq_zero_iff.1 hl6
 subst q7 q6 q5 q4 q3 q2 q1 q0
 exact aRp x0 x1 x2 x3 x4 x5 x6 x7 x8 l0 l1 l2 l3 l4 l5 l6 b0 b1 b2 b3 b4 b5 b6 b7 b8 hp
def aAt:List (Int × Int):=[(0,255),(0,9223372036854775807),(0,17592186043904),((-9223372036854775808),9223372036854775807),(0,9223372036854775807),(0,9223372036854775807),(0,9223372036854775807),(0,9223372036854775807),((-2147483648),2147483647),(0,9223372036854775807),(0,9223372036854775807),(0,9223372036854775807),(0,17592186043904)]
def aWI:St:=⟨[.any,(.ptr 8 0),(.ptr 9 0),(.own 10 (.var 12) none),(.int .i64 (.var 12)),.any,.any,.any,.any,.any,.any,.any,.any,.any,.any,.any,.any,.any,.any,.any,.any,.any,.any,.any,.any,.any,.any,.any,.any,.any],[some ([.vec [.int .i32,.int .i32] (.var 13) (.var 1) true],aF),some ([.vec [.int .i64] (.var 14) (.var 2) true],aF),some ([.vec [.int .i32,.int .i32] (.var 15) (.var 4) true],aF),some ([.vec [.int .u8] (.var 16) (.var 5) true],aF),some ([.vec [.int .i64] (.lit 0) (.lit 0) true],aF),some ([.vec [.int .i64] (.lit 0) (.lit 0) true],aF),some ([.vec [.int .i64] (.lit 0) (.lit 0) true],aF),some ([.vec [.int .i64] (.lit 0) (.lit 0) true],aF),some ([(.int .u8 (.var 0)),.any,(.own 0 (.var 1) none),(.own 1 (.var 2) none),(.int .i64 (.var 3)),(.con (.slice none 0 0)),(.own 2 (.var 4) none),(.own 3 (.var 5) none),(.own 4 (.var 6) none),(.own 5 (.var 7) none),(.int .i32 (.var 8)),(.own 6 (.var 9) none),(.own 7 (.var 10) none),(.text (.var 11))],30),some ([.int .u8 (.lit 0),(.con (.slice none 0 0)),(.con (.slice none 0 0)),(.con (.slice none 0 0)),.int .i64 (.lit 0),(.con (.slice none 0 0)),(.con (.slice none 0 0)),(.con (.slice none 0 0)),(.con (.slice none 0 0)),(.con (.slice none 0 0)),.int .i32 (.lit 0),(.con (.slice none 0 0)),(.con (.slice none 0 0)),.any],30),some ([.vec [.int .i32,.int .i32] (.var 17) (.var 12) false],aU+41)]⟩
def aWj:St:=⟨[.any,(.ptr 8 0),(.ptr 9 0),(.own 10 (.var 2) none),.any,.any,.any,.any,.any,.any,.any,.any,.any,.any,.any,.any,.any,.any,.any,.any,.any,.any,.any,.any,.any,.any,.any,.any,.any,.any],[some ([.vec [.int .i32,.int .i32] (.var 12) (.var 1) true],aF),some ([.vec [.int .i64] (.var 13) (.var 2) true],aF),some ([.vec [.int .i32,.int .i32] (.var 14) (.var 4) true],aF),some ([.vec [.int .u8] (.var 15) (.var 5) true],aF),some ([.vec [.int .i64] (.lit 0) (.lit 0) true],aF),some ([.vec [.int .i64] (.lit 0) (.lit 0) true],aF),some ([.vec [.int .i64] (.lit 0) (.lit 0) true],aF),some ([.vec [.int .i64] (.lit 0) (.lit 0) true],aF),some ([(.int .u8 (.var 0)),.any,(.own 0 (.var 1) none),(.own 1 (.var 2) none),(.int .i64 (.var 3)),(.con (.slice none 0 0)),(.own 2 (.var 4) none),(.own 3 (.var 5) none),(.own 4 (.var 6) none),(.own 5 (.var 7) none),(.int .i32 (.var 8)),(.own 6 (.var 9) none),(.own 7 (.var 10) none),(.text (.var 11))],30),some ([.int .u8 (.lit 0),(.con (.slice none 0 0)),(.con (.slice none 0 0)),(.con (.slice none 0 0)),.int .i64 (.lit 0),(.con (.slice none 0 0)),(.con (.slice none 0 0)),(.con (.slice none 0 0)),(.con (.slice none 0 0)),(.con (.slice none 0 0)),.int .i32 (.lit 0),(.con (.slice none 0 0)),(.con (.slice none 0 0)),.any],30),some ([.vec [.int .i32,.int .i32] (.app 74 (.cons (.var 13) (.cons (.var 2) .nil))) (.var 2) false],aU+41)]⟩
def aVR:LoopS:=⟨12,10,aWI,.lit true,.exit 0,aWj,.exit 0,aWj⟩
def aVV:List E:=[(.var 0),(.var 1),(.var 2),(.var 3),(.var 4),(.var 5),(.var 6),(.var 7),(.var 8),(.var 9),(.var 10),(.var 11),(.lit 0),(.var 12),(.var 13),(.var 14),(.var 15),(.lit 0)]
def aTl:LoopU:=⟨aVR,aVV,aAt,.lit true⟩
def aSy:fG:=jL 4 (fT (bN GB) [aTl]) dO
def xW (P:Program) (fs:List B):Res SV:=cA G GI aAt fs fun X=>nX P X GB gH dO 4000 (cN (bV P 19) 0) aVR
def aVx:FunS:=⟨[(.agg [(.int .u8 (.var 0)),.any,(.own 0 (.var 1) none),(.own 1 (.var 2) none),(.int .i64 (.var 3)),.any,(.own 2 (.var 4) none),(.own 3 (.var 5) none),(.own 4 (.var 6) none),(.own 5 (.var 7) none),(.int .i32 (.var 8)),(.own 6 (.var 9) none),(.own 7 (.var 10) none),(.text (.var 11))])],[some ([.vec [.int .i32,.int .i32] (.var 12) (.var 1) true],aF),some ([.vec [.int .i64] (.var 13) (.var 2) true],aF),some ([.vec [.int .i32,.int .i32] (.var 14) (.var 4) true],aF),some ([.vec [.int .u8] (.var 15) (.var 5) true],aF),some ([.vec [.int .i64] (.lit 0) (.lit 0) true],aF),some ([.vec [.int .i64] (.lit 0) (.lit 0) true],aF),some ([.vec [.int .i64] (.lit 0) (.lit 0) true],aF),some ([.vec [.int .i64] (.lit 0) (.lit 0) true],aF)],.lit true,(.agg [(.int .u8 (.var 0)),(.own 8 (.var 2) none),(.own 0 (.var 1) none),(.own 1 (.var 2) none),(.int .i64 (.var 3)),(.con (.slice none 0 0)),(.own 2 (.var 4) none),(.own 3 (.var 5) none),(.own 4 (.var 6) none),(.own 5 (.var 7) none),(.int .i32 (.var 8)),(.own 6 (.var 9) none),(.own 7 (.var 10) none),(.text (.var 11))]),[some ([.vec [.int .i32,.int .i32] (.var 12) (.var 1) true],aF),some ([.vec [.int .i64] (.var 13) (.var 2) true],aF),some ([.vec [.int .i32,.int .i32] (.var 14) (.var 4) true],aF),some ([.vec [.int .u8] (.var 15) (.var 5) true],aF),some ([.vec [.int .i64] (.lit 0) (.lit 0) true],aF),some ([.vec [.int .i64] (.lit 0) (.lit 0) true],aF),some ([.vec [.int .i64] (.lit 0) (.lit 0) true],aF),some ([.vec [.int .i64] (.lit 0) (.lit 0) true],aF),some ([.vec [.int .i32,.int .i32] (.app 74 (.cons (.var 13) (.cons (.var 2) .nil))) (.var 2) false],aU+41)],(.agg [(.int .u8 (.var 0)),(.own 8 (.var 2) none),(.own 0 (.var 1) none),(.own 1 (.var 2) none),(.int .i64 (.var 3)),(.con (.slice none 0 0)),(.own 2 (.var 4) none),(.own 3 (.var 5) none),(.own 4 (.var 6) none),(.own 5 (.var 7) none),(.int .i32 (.var 8)),(.own 6 (.var 9) none),(.own 7 (.var 10) none),(.text (.var 11))]),[some ([.vec [.int .i32,.int .i32] (.var 12) (.var 1) true],aF),some ([.vec [.int .i64] (.var 13) (.var 2) true],aF),some ([.vec [.int .i32,.int .i32] (.var 14) (.var 4) true],aF),some ([.vec [.int .u8] (.var 15) (.var 5) true],aF),some ([.vec [.int .i64] (.lit 0) (.lit 0) true],aF),some ([.vec [.int .i64] (.lit 0) (.lit 0) true],aF),some ([.vec [.int .i64] (.lit 0) (.lit 0) true],aF),some ([.vec [.int .i64] (.lit 0) (.lit 0) true],aF),some ([.vec [.int .i32,.int .i32] (.app 74 (.cons (.var 13) (.cons (.var 2) .nil))) (.var 2) false],aU+41)]⟩
def aJM (P:Program) (fs:List B):Res SV:=cA G GI [(0,255),(0,9223372036854775807),(0,17592186043904),((-9223372036854775808),9223372036854775807),(0,9223372036854775807),(0,9223372036854775807),(0,9223372036854775807),(0,9223372036854775807),((-2147483648),2147483647),(0,9223372036854775807),(0,9223372036854775807),(0,9223372036854775807)] fs fun X=>gJ P X GB gH aSy 4000 19 aVx
theorem aJc:bI (bV Try.prog 19)=[cN (bV Try.prog 19) 0]:=by kernel_rfl
end Go.Proofs.Ytdldallkeheciaa
set_option maxRecDepth 100000
namespace Go.Proofs.Ytdldallkeheciaa
open Go Go.RowKit Sx Wi Lk
def aCP (P:Program) (fs:List B):Res SV:=xW P fs
def aDY:List B:=[]
def mV:B:=(.cmp .lt (.var 12) (.var 2))
def aDg:List B:=aJ mV++aDY
def pR:B:=(.cmp .le (.lit (-9223372036854775808)) (.op .sub (.app 83 (.cons (.var 14) (.cons (.var 12) (.cons (.lit 0) .nil)))) (.lit 1)))
def aMk:List B:=aJ pR++aDg
def aDH:SV:=(.agg [(.int .i64 (.op .add (.var 12) (.lit 1))),(.int .i64 (.var 12)),(.int .i64 (.op .add (.var 12) (.lit 1))),(.int .i64 (.var 12)),(.int .i64 (.var 13)),(.int .i64 (.var 13)),(.int .i64 (.var 14)),(.int .i64 (.var 14)),(.int .i64 (.var 15)),(.int .i64 (.var 15)),(.int .i64 (.var 16)),(.int .i64 (.var 16)),(.int .i64 (.app 91 (.cons (.var 17) (.cons (.lit 0) (.cons (.op .mul (.lit 65536) (.op .max (.lit 1) (.op .min (.lit 255) (.op .sub (.app 83 (.cons (.var 14) (.cons (.var 12) (.cons (.lit 0) .nil)))) (.lit 1))))) .nil))))),(.int .i64 (.var 17)),(.int .i64 (.op .add (.var 12) (.lit 1))),(.int .i64 (.var 12))])
def aJW:List B:=aJ (B.neg pR)++aDg
def aDX:SV:=(.agg [(.int .i64 (.op .add (.var 12) (.lit 1))),(.int .i64 (.var 12)),(.int .i64 (.op .add (.var 12) (.lit 1))),(.int .i64 (.var 12)),(.int .i64 (.var 13)),(.int .i64 (.var 13)),(.int .i64 (.var 14)),(.int .i64 (.var 14)),(.int .i64 (.var 15)),(.int .i64 (.var 15)),(.int .i64 (.var 16)),(.int .i64 (.var 16)),(.int .i64 (.app 91 (.cons (.var 17) (.cons (.lit 0) (.cons (.op .mul (.lit 65536) (.op .max (.lit 1) (.op .min (.lit 255) (.wrap .i64 (.op .sub (.app 83 (.cons (.var 14) (.cons (.var 12) (.cons (.lit 0) .nil)))) (.lit 1)))))) .nil))))),(.int .i64 (.var 17)),(.int .i64 (.op .add (.var 12) (.lit 1))),(.int .i64 (.var 12))])
def aKk:List B:=aJ (B.neg mV)++aDY
def aDA:SV:=(.tuple [(.agg [(.int .i64 (.var 12)),(.int .i64 (.var 2)),(.int .i64 (.var 13)),(.int .i64 (.var 12)),(.int .i64 (.var 14)),(.int .i64 (.var 13)),(.int .i64 (.var 15)),(.int .i64 (.var 14)),(.int .i64 (.var 16)),(.int .i64 (.var 15)),(.int .i64 (.var 17)),(.int .i64 (.app 74 (.cons (.var 13) (.cons (.var 2) .nil)))),(.int .i64 (.var 12)),(.int .i64 (.var 2))]),(.bool (.lit true))])
theorem aLo:aCP Try.prog aMk = .ok aDH:=by kernel_rfl
theorem aJX:aCP Try.prog aJW = .ok aDX:=by kernel_rfl
theorem aIL:aCP Try.prog aKk = .ok aDA:=by kernel_rfl
end Go.Proofs.Ytdldallkeheciaa
set_option maxRecDepth 100000
namespace Go.Proofs.Ytdldallkeheciaa
open Go Go.RowKit Sx Wi Lk
def aNp (P:Program) (fs:List B):Res SV:=aJM P fs
def aKg:List B:=[]
theorem aLd:aNp Try.prog aKg = .ok (.tuple [(.agg []),(.bool (.lit true))]):=by kernel_rfl
end Go.Proofs.Ytdldallkeheciaa
namespace Go.Proofs.Ytdldallkeheciaa
open Go Go.RowKit Sx Wi Lk
def iW (x0 x1 x2 x3 x4 x5 x6 x7 x8 x9 x10 x11 l0 l1 l2 l3:Int) (i:Nat):Nat→Int:=cQ ([x0,x1,x2,x3,x4,x5,x6,x7,x8,x9,x10,x11,(i:Int)]++[l0,l1,l2,l3,G 74 [l1,(i:Int)]])
theorem aN1 (x0 x1 x2 x3 x4 x5 x6 x7 x8 x9 x10 x11 l0 l1 l2 l3:Int) (b0:0≤x0∧x0≤255) (b1:0≤x1∧x1≤9223372036854775807) (b2:0≤x2∧x2≤17592186043904) (b3:(-9223372036854775808)≤x3∧x3≤9223372036854775807) (b4:0≤x4∧x4≤9223372036854775807) (b5:0≤x5∧x5≤9223372036854775807) (b6:0≤x6∧x6≤9223372036854775807) (b7:0≤x7∧x7≤9223372036854775807) (b8:(-2147483648)≤x8∧x8≤2147483647) (b9:0≤x9∧x9≤9223372036854775807) (b10:0≤x10∧x10≤9223372036854775807) (b11:0≤x11∧x11≤9223372036854775807) (i:Nat) (hi:(i:Int)≤x2):∀ k q,aAt[k]?=some q→q.1≤iW x0 x1 x2 x3 x4 x5 x6 x7 x8 x9 x10 x11 l0 l1 l2 l3 i k∧iW x0 x1 x2 x3 x4 x5 x6 x7 x8 x9 x10 x11 l0 l1 l2 l3 i k≤q.2:=by
 unfold iW aAt
 exact bP (xs:=[x0,x1,x2,x3,x4,x5,x6,x7,x8,x9,x10,x11,(i:Int)]) (by exact⟨b0,b1,b2,b3,b4,b5,b6,b7,b8,b9,b10,b11,by omega,trivial⟩)
set_option maxHeartbeats 4000000 in
set_option maxRecDepth 100000 in
theorem aST (x0 x1 x2 x3 x4 x5 x6 x7 x8 x9 x10 x11 l0 l1 l2 l3:Int) (b0:0≤x0∧x0≤255) (b1:0≤x1∧x1≤9223372036854775807) (b2:0≤x2∧x2≤17592186043904) (b3:(-9223372036854775808)≤x3∧x3≤9223372036854775807) (b4:0≤x4∧x4≤9223372036854775807) (b5:0≤x5∧x5≤9223372036854775807) (b6:0≤x6∧x6≤9223372036854775807) (b7:0≤x7∧x7≤9223372036854775807) (b8:(-2147483648)≤x8∧x8≤2147483647) (b9:0≤x9∧x9≤9223372036854775807) (b10:0≤x10∧x10≤9223372036854775807) (b11:0≤x11∧x11≤9223372036854775807) (i:Nat) (hi:(i:Int)≤x2):Sx.Way (xW Try.prog) G (iW x0 x1 x2 x3 x4 x5 x6 x7 x8 x9 x10 x11 l0 l1 l2 l3 i) (cM G (iW x0 x1 x2 x3 x4 x5 x6 x7 x8 x9 x10 x11 l0 l1 l2 l3) (cQ ([x0,x1,x2,x3,x4,x5,x6,x7,x8,x9,x10,x11]++[l0,l1,l2,l3])) 12 (.lit true) (fun i=>(i:Int)≤x2) (fun i=>x2.toNat-i) i) []:=by
 refine aG mV (fun h0=>?_) (fun h0=>?_)
 rotate_left
 ·skip
  refine aH aIL ?_
  unfold mV at h0;unfold aDA;simp only[nn,iW,List.cons_append,List.nil_append,Bool.or_eq_true,aP,ne_eq]at h0;have he:(i:Int)=x2:=(by omega);clear h0;simp only[cM];refine⟨rfl,(fun k hk=>by (match k,hk with|0,_=>rfl|1,_=>rfl|2,_=>rfl|3,_=>rfl|4,_=>rfl|5,_=>rfl|6,_=>rfl|7,_=>rfl|8,_=>rfl|9,_=>rfl|10,_=>rfl|11,_=>rfl)),?_⟩;simp only[aI];simp only[nn,iW,List.cons_append,List.nil_append,Bool.or_eq_true,aP,ne_eq];rw[he];(repeat' refine And.intro ?_ ?_)<;>first|with_reducible rfl|trivial
 refine aG pR (fun h1=>?_) (fun h1=>?_)
 ·skip
  refine aH aLo ?_
  unfold mV at h0;unfold pR at h1;unfold aDH;simp only[nn,iW,List.cons_append,List.nil_append,Bool.or_eq_true,aP,ne_eq]at h0 h1;have hm:x2.toNat-(i+1)<x2.toNat-i:=(by omega);have hg:((i+1:Nat):Int)≤x2:=(by omega);have key:=aDK l1 i (aKi l1 i h1);clear h0 h1;simp only[cM];refine⟨i+1,hg,hm,(fun k hk=>by (match k,hk with|0,_=>rfl|1,_=>rfl|2,_=>rfl|3,_=>rfl|4,_=>rfl|5,_=>rfl|6,_=>rfl|7,_=>rfl|8,_=>rfl|9,_=>rfl|10,_=>rfl|11,_=>rfl)),?_⟩;simp only[aI];simp only[nn,iW,List.cons_append,List.nil_append,Bool.or_eq_true,aP,ne_eq];(repeat' refine And.intro ?_ ?_)<;>first|with_reducible rfl|with_reducible exact key|trivial|omega
 refine aH aJX ?_
 unfold mV at h0;unfold pR at h1;unfold aDX;simp only[nn,iW,List.cons_append,List.nil_append,Bool.or_eq_true,aP,ne_eq]at h0 h1;have hm:x2.toNat-(i+1)<x2.toNat-i:=(by omega);have hg:((i+1:Nat):Int)≤x2:=(by omega);have key:=aDK l1 i rfl;clear h0 h1;simp only[cM];refine⟨i+1,hg,hm,(fun k hk=>by (match k,hk with|0,_=>rfl|1,_=>rfl|2,_=>rfl|3,_=>rfl|4,_=>rfl|5,_=>rfl|6,_=>rfl|7,_=>rfl|8,_=>rfl|9,_=>rfl|10,_=>rfl|11,_=>rfl)),?_⟩;simp only[aI];simp only[nn,iW,List.cons_append,List.nil_append,Bool.or_eq_true,aP,ne_eq];(repeat' refine And.intro ?_ ?_)<;>first|with_reducible rfl|with_reducible exact key|trivial|omega
set_option maxHeartbeats 4000000 in
set_option maxRecDepth 100000 in
theorem aUO (x0 x1 x2 x3 x4 x5 x6 x7 x8 x9 x10 x11 l0 l1 l2 l3:Int):gE Try.prog G (bN GB) (cN (bV Try.prog 19) 0) aTl (cQ ([x0,x1,x2,x3,x4,x5,x6,x7,x8,x9,x10,x11]++[l0,l1,l2,l3])):=by
 intro hw _
 have hb:eJ aAt ([x0,x1,x2,x3,x4,x5,x6,x7,x8,x9,x10,x11]++[0]):=hw
 unfold aAt at hb
 simp only[List.cons_append,List.nil_append]at hb
 obtain⟨b0,b1,b2,b3,b4,b5,b6,b7,b8,b9,b10,b11,_⟩:=hb
 have e:gC G (cQ ([x0,x1,x2,x3,x4,x5,x6,x7,x8,x9,x10,x11]++[l0,l1,l2,l3])) aTl.es=iW x0 x1 x2 x3 x4 x5 x6 x7 x8 x9 x10 x11 l0 l1 l2 l3 0:=by
  rw[eG]
  unfold iW
  rw[show ((0:Nat):Int)=0 from rfl,←aJ4]
  rfl
 rw[e]
 exact⟨x2.toNat+1,gB (ι:=Nat) (ρ:=iW x0 x1 x2 x3 x4 x5 x6 x7 x8 x9 x10 x11 l0 l1 l2 l3) (ρT:=(cQ ([x0,x1,x2,x3,x4,x5,x6,x7,x8,x9,x10,x11]++[l0,l1,l2,l3]))) (m:=fun i=>x2.toNat-i) (Good:=fun i=>(i:Int)≤x2) (run:=xW Try.prog) (fun _=>rfl) fits rfl eU (fun i hi=>aN1 x0 x1 x2 x3 x4 x5 x6 x7 x8 x9 x10 x11 l0 l1 l2 l3 b0 b1 b2 b3 b4 b5 b6 b7 b8 b9 b10 b11 i hi) (fun _ _ X hX hG=>dA hX hG) (fun _ _ X hX hG=>cF) (fun i hi=>aST x0 x1 x2 x3 x4 x5 x6 x7 x8 x9 x10 x11 l0 l1 l2 l3 b0 b1 b2 b3 b4 b5 b6 b7 b8 b9 b10 b11 i hi) (by decide) _ 0 (by show ((0:Nat):Int)≤x2;omega) (by show x2.toNat-0<x2.toNat+1;omega)⟩
set_option maxHeartbeats 4000000 in
set_option maxRecDepth 100000 in
theorem aTt (x0 x1 x2 x3 x4 x5 x6 x7 x8 x9 x10 x11 l0 l1 l2 l3:Int) (b0:0≤x0∧x0≤255) (b1:0≤x1∧x1≤9223372036854775807) (b2:0≤x2∧x2≤17592186043904) (b3:(-9223372036854775808)≤x3∧x3≤9223372036854775807) (b4:0≤x4∧x4≤9223372036854775807) (b5:0≤x5∧x5≤9223372036854775807) (b6:0≤x6∧x6≤9223372036854775807) (b7:0≤x7∧x7≤9223372036854775807) (b8:(-2147483648)≤x8∧x8≤2147483647) (b9:0≤x9∧x9≤9223372036854775807) (b10:0≤x10∧x10≤9223372036854775807) (b11:0≤x11∧x11≤9223372036854775807):fX Try.prog G GB 19 aVx (cQ ([x0,x1,x2,x3,x4,x5,x6,x7,x8,x9,x10,x11]++[l0,l1,l2,l3])):=by
 refine cY (lp:=aSy) (run:=aJM Try.prog) (fun _=>rfl) fits (bP (xs:=[x0,x1,x2,x3,x4,x5,x6,x7,x8,x9,x10,x11]) (ls:=[l0,l1,l2,l3]) (by exact⟨b0,b1,b2,b3,b4,b5,b6,b7,b8,b9,b10,b11,trivial⟩)) eU (fun X hX hG=>dA hX hG) (fun X hX hG fn c hf hc=>?_) rfl ?_
 ·refine kS ((congrArg bI (nG hf hc)).symm.trans aJc) ?_
  intro b hb
  simp only[List.mem_cons,List.mem_nil_iff,or_false]at hb
  subst hb
  refine iX hX hG (by kernel_rfl) ?_
  intro p hp'
  simp only[List.mem_cons,List.mem_nil_iff,or_false]at hp'
  subst hp'
  exact aUO x0 x1 x2 x3 x4 x5 x6 x7 x8 x9 x10 x11 l0 l1 l2 l3
 ·skip
  refine aH aLd ?_
  exact⟨rfl,trivial⟩
def aDb:Ctx→List SV→aM→Res (SV × aM):=dW GB [(0,255),(0,9223372036854775807),(0,17592186043904),((-9223372036854775808),9223372036854775807),(0,9223372036854775807),(0,9223372036854775807),(0,9223372036854775807),(0,9223372036854775807),((-2147483648),2147483647),(0,9223372036854775807),(0,9223372036854775807),(0,9223372036854775807)] 4 (.lit true) aVx
theorem aVJ {X:Ctx} {ρ:Nat→Int} (hX:X.Ok ρ) (hG:X.G=G):eV Try.prog X ρ GB 19 aDb:=by
 obtain⟨XG,XI,XV,XF⟩:=X
 simp only at hG
 subst hG
 refine cU hX ?_
 intro xs ls hw hl hp
 obtain⟨x0,y0,e0,b0,h0⟩:=aY hw
 obtain⟨x1,y1,e1,b1,h1⟩:=aY h0
 obtain⟨x2,y2,e2,b2,h2⟩:=aY h1
 obtain⟨x3,y3,e3,b3,h3⟩:=aY h2
 obtain⟨x4,y4,e4,b4,h4⟩:=aY h3
 obtain⟨x5,y5,e5,b5,h5⟩:=aY h4
 obtain⟨x6,y6,e6,b6,h6⟩:=aY h5
 obtain⟨x7,y7,e7,b7,h7⟩:=aY h6
 obtain⟨x8,y8,e8,b8,h8⟩:=aY h7
 obtain⟨x9,y9,e9,b9,h9⟩:=aY h8
 obtain⟨x10,y10,e10,b10,h10⟩:=aY h9
 obtain⟨x11,y11,e11,b11,h11⟩:=aY h10
 have e12:=jJ h11
 subst e12 e11 e10 e9 e8 e7 e6 e5 e4 e3 e2 e1 e0
 obtain⟨l0,z0,q0,hl0⟩:=bJ hl
 obtain⟨l1,z1,q1,hl1⟩:=bJ hl0
 obtain⟨l2,z2,q2,hl2⟩:=bJ hl1
 obtain⟨l3,z3,q3,hl3⟩:=bJ hl2
 have q4:=List.length_eq_zero_iff.1 hl3
 subst q4 q3 q2 q1 q0
 exact aTt x0 x1 x2 x3 x4 x5 x6 x7 x8 x9 x10 x11 l0 l1 l2 l3 b0 b1 b2 b3 b4 b5 b6 b7 b8 b9 b10 b11
end Go.Proofs.Ytdldallkeheciaa
set_option maxRecDepth 100000
namespace Go.Proofs.Ytdldallkeheciaa
open Go Go.RowKit Sx Wi Lk
def aHG (P:Program) (fs:List B):Res SV:=cA G GI [] fs (fun X=>aAx P X GB gH 20000 9 [])
def aMQ:List B:=[]
theorem aJx:aHG Try.prog aMQ = .ok (.bool (.cmp .eq (.lit 4) (.lit 4))):=by kernel_rfl
end Go.Proofs.Ytdldallkeheciaa
namespace Go.Proofs.Ytdldallkeheciaa
open Go Go.RowKit Sx Wi Lk
set_option maxRecDepth 100000 in
theorem aHR   (w:World) (hw:WOk GB w):fO Try.prog 9∧Calls Try.prog 9 #[] w (fun e w'=>e = .returned (.bool true)∧Below w.heap.size w w'):=by
 refine wV (rU (ρ:=cQ []) (run:=fun fs=>aHG Try.prog fs) (fun _=>rfl) fits (kZ trivial) eU (fun X hX hG=>dA hX hG) rfl rfl oY ?_ w hw)
 refine aH aJx ?_
 exact⟨rfl,rfl⟩
def oX:mU:=fun _ args=>
 match args with
 |[] => .ok (.bool (.lit true))
 |_ => .fail 201
theorem aJr {X:Ctx} {ρ:Nat→Int} (hX:X.Ok ρ) (hG:X.G=G):iO Try.prog X ρ GB 9 oX:=by
 obtain⟨XG,XI,XV,XF⟩:=X
 simp only at hG
 subst hG
 intro args s h α w vals hv hw
 unfold oX at h
 split at h
 ·cases h
  exact dB hv rfl rfl (aHR w hw)
 ·cases h
def aSr:bA:=fQ 11 (aCf aAJ aAH) xT
theorem aJ8 {X:Ctx} {ρ:Nat→Int} (hX:X.Ok ρ) (hG:X.G=G):fF Try.prog X ρ GB aSr:=dN (aA9 (aTE hX hG) (aTA hX hG)) (lK hX hG)
def aSs:bA:=fQ 19 aDb aSr
theorem aLX {X:Ctx} {ρ:Nat→Int} (hX:X.Ok ρ) (hG:X.G=G):fF Try.prog X ρ GB aSs:=dN (aVJ hX hG) (aJ8 hX hG)
def aSK:bA:=kG 9 oX aSs
theorem aMs {X:Ctx} {ρ:Nat→Int} (hX:X.Ok ρ) (hG:X.G=G):fF Try.prog X ρ GB aSK:=fI (aJr hX hG) (aLX hX hG)
def aWF:St:=⟨[.any,(.own 10 (.var 14) none),(.ptr 11 0),.any,.any,(.own 12 (.var 15) none),(.int .i64 (.var 15)),.any,.any,.any,.any,.any,.any,.any,.any,.any,.any,.any,.any,.any,.any,.any,.any,.any,.any,.any,.any,.any,.any,.any,.any,.any,.any,.any,.any,.any,.any,.any,.any,.any,.any,.any,.any,.any,.any,.any,.any,.any,.any,.any,.any,.any,.any,.any,.any,.any,.any,.any,.any,.any,.any,.any,.any,.any,.any,.any,.any,.any,.any,.any,.any,.any,.any,.any,.any,.any,.any,.any,.any,.any,.any,.any,.any,.any,.any,.any,.any,.any,.any,.any,.any,.any,.any,.any,.any,.any,.any,.any,.any,.any,.any,.any,.any,.any,.any,.any,.any,.any,.any,.any,.any,.any,.any,.any,.any,.any,.any,.any,.any,.any,.any,.any],[some ([.vec [.int .i32,.int .i32] (.var 16) (.var 1) true],aF),some ([.vec [.int .i32,.int .i32] (.var 17) (.var 2) true],aF),some ([.vec [.int .i64] (.var 18) (.var 3) true],aF),some ([.vec [.int .i32,.int .i32] (.var 19) (.var 5) true],aF),some ([.vec [.int .i32,.int .i32] (.var 20) (.var 6) true],aF),some ([.vec [.int .u8] (.var 21) (.var 7) true],aF),some ([.vec [.int .i64] (.lit 0) (.lit 0) true],aF),some ([.vec [.int .i64] (.lit 0) (.lit 0) true],aF),some ([.vec [.int .i64] (.lit 0) (.lit 0) true],aF),some ([.vec [.int .i64] (.lit 0) (.lit 0) true],aF),some ([.vec [.int .i32] (.var 22) (.var 14) true],aF),some ([(.int .u8 (.var 0)),(.own 0 (.var 1) none),(.own 1 (.var 2) none),(.own 2 (.var 3) none),(.int .i64 (.var 4)),(.own 3 (.var 5) none),(.own 4 (.var 6) none),(.own 5 (.var 7) none),(.own 6 (.var 8) none),(.own 7 (.var 9) none),(.int .i32 (.var 10)),(.own 8 (.var 11) none),(.own 9 (.var 12) none),(.text (.var 13))],30),some ([.vec [.int .i32] (.var 24) (.var 15) false],aU+27)]⟩
def aVL:St:=⟨[.any,(.own 10 (.var 14) none),(.ptr 11 0),.any,.any,(.own 12 (.var 14) none),.any,.any,.any,.any,.any,.any,.any,.any,.any,.any,.any,.any,.any,.any,.any,.any,.any,.any,.any,.any,.any,.any,.any,.any,.any,.any,.any,.any,.any,.any,.any,.any,.any,.any,.any,.any,.any,.any,.any,.any,.any,.any,.any,.any,.any,.any,.any,.any,.any,.any,.any,.any,.any,.any,.any,.any,.any,.any,.any,.any,.any,.any,.any,.any,.any,.any,.any,.any,.any,.any,.any,.any,.any,.any,.any,.any,.any,.any,.any,.any,.any,.any,.any,.any,.any,.any,.any,.any,.any,.any,.any,.any,.any,.any,.any,.any,.any,.any,.any,.any,.any,.any,.any,.any,.any,.any,.any,.any,.any,.any,.any,.any,.any,.any,.any,.any],[some ([.vec [.int .i32,.int .i32] (.var 15) (.var 1) true],aF),some ([.vec [.int .i32,.int .i32] (.var 16) (.var 2) true],aF),some ([.vec [.int .i64] (.var 17) (.var 3) true],aF),some ([.vec [.int .i32,.int .i32] (.var 18) (.var 5) true],aF),some ([.vec [.int .i32,.int .i32] (.var 19) (.var 6) true],aF),some ([.vec [.int .u8] (.var 20) (.var 7) true],aF),some ([.vec [.int .i64] (.lit 0) (.lit 0) true],aF),some ([.vec [.int .i64] (.lit 0) (.lit 0) true],aF),some ([.vec [.int .i64] (.lit 0) (.lit 0) true],aF),some ([.vec [.int .i64] (.lit 0) (.lit 0) true],aF),some ([.vec [.int .i32] (.var 21) (.var 14) true],aF),some ([(.int .u8 (.var 0)),(.own 0 (.var 1) none),(.own 1 (.var 2) none),(.own 2 (.var 3) none),(.int .i64 (.var 4)),(.own 3 (.var 5) none),(.own 4 (.var 6) none),(.own 5 (.var 7) none),(.own 6 (.var 8) none),(.own 7 (.var 9) none),(.int .i32 (.var 10)),(.own 8 (.var 11) none),(.own 9 (.var 12) none),(.text (.var 13))],30),some ([.vec [.int .i32] (.var 22) (.var 14) false],aU+27)]⟩
def aDN:List (Int × Int):=[(0,255),(0,9223372036854775807),(0,9223372036854775807),(0,17592186043904),((-9223372036854775808),9223372036854775807),(0,9223372036854775807),(0,9223372036854775807),(0,9223372036854775807),(0,9223372036854775807),(0,9223372036854775807),((-2147483648),2147483647),(0,9223372036854775807),(0,9223372036854775807),(0,9223372036854775807),(0,9223372036854775807),(0,4)]
def aV9:LoopS:=⟨15,12,aWF,.lit true,.exit 0,aVL,.exit 0,aVL⟩
def aO5:LoopU:=⟨aV9,[(.var 0),(.var 1),(.var 2),(.var 3),(.var 4),(.var 5),(.var 6),(.var 7),(.var 8),(.var 9),(.var 10),(.var 11),(.var 12),(.var 13),(.var 14),(.lit 0),(.var 15),(.var 16),(.var 17),(.var 18),(.var 19),(.var 20),(.var 21),(.var 22),(.lit 0)],aDN,(.and (.cmp .eq (.var 14) (.var 1)) (.cmp .le (.var 14) (.lit 4)))⟩
def yL (P:Program) (fs:List B):Res SV:=cA G GI aDN fs fun X=>nX P X GB gH dO 4000 (cN (bV P 5) 0) aV9
end Go.Proofs.Ytdldallkeheciaa
set_option maxRecDepth 100000
namespace Go.Proofs.Ytdldallkeheciaa
open Go Go.RowKit Sx Wi Lk
def aIX (P:Program) (fs:List B):Res SV:=yL P fs
def aFU:List B:=[]
def nM:B:=(.cmp .lt (.var 15) (.var 14))
def aRK:List B:=aJ nM++aFU
def aCQ:B:=(.cmp .eq (.var 14) (.var 1))
def aPc:List B:=aJ aCQ++aRK
def aCe:B:=(.cmp .lt (.var 15) (.var 1))
def aOr:List B:=aJ aCe++aPc
def aHn:SV:=(.agg [(.int .i64 (.op .add (.var 15) (.lit 1))),(.int .i64 (.var 15)),(.int .i64 (.op .add (.var 15) (.lit 1))),(.int .i64 (.var 15)),(.int .i64 (.var 16)),(.int .i64 (.var 16)),(.int .i64 (.var 17)),(.int .i64 (.var 17)),(.int .i64 (.var 18)),(.int .i64 (.var 18)),(.int .i64 (.var 19)),(.int .i64 (.var 19)),(.int .i64 (.var 20)),(.int .i64 (.var 20)),(.int .i64 (.var 21)),(.int .i64 (.var 21)),(.int .i64 (.var 22)),(.int .i64 (.var 22)),(.int .i64 (.app 91 (.cons (.var 24) (.cons (.op .max (.app 82 (.cons (.var 16) (.cons (.var 15) (.cons (.lit 0) .nil)))) (.op .min (.app 82 (.cons (.var 22) (.cons (.var 15) (.cons (.lit 0) .nil)))) (.app 82 (.cons (.var 16) (.cons (.var 15) (.cons (.lit 1) .nil)))))) .nil)))),(.int .i64 (.var 24)),(.int .i64 (.op .add (.var 15) (.lit 1))),(.int .i64 (.var 15))])
def aRZ:List B:=aJ (B.neg nM)++aFU
def aGV:SV:=(.tuple [(.agg [(.int .i64 (.var 15)),(.int .i64 (.var 14)),(.int .i64 (.var 16)),(.int .i64 (.var 15)),(.int .i64 (.var 17)),(.int .i64 (.var 16)),(.int .i64 (.var 18)),(.int .i64 (.var 17)),(.int .i64 (.var 19)),(.int .i64 (.var 18)),(.int .i64 (.var 20)),(.int .i64 (.var 19)),(.int .i64 (.var 21)),(.int .i64 (.var 20)),(.int .i64 (.var 22)),(.int .i64 (.var 21)),(.int .i64 (.var 24)),(.int .i64 (.var 22)),(.int .i64 (.var 15)),(.int .i64 (.var 14))]),(.bool (.lit true))])
theorem aQy:aIX Try.prog aOr = .ok aHn:=by kernel_rfl
theorem aOb:aIX Try.prog aRZ = .ok aGV:=by kernel_rfl
end Go.Proofs.Ytdldallkeheciaa
namespace Go.Proofs.Ytdldallkeheciaa
open Go Go.RowKit Sx Wi Lk
def cX (D IN:Int) (i:Nat):Int:=Lc.enc ((List.range i).map fun (k:Nat)=>[max (gM D k 0) (min (gM IN k 0) (gM D k 1))])
theorem aHO (D IN:Int):(0:Int)=cX D IN 0:=rfl
theorem aH3 (D IN:Int) (i:Nat):G 91 [cX D IN i,max (G 82 [D,i,0]) (min (G 82 [IN,i,0]) (G 82 [D,i,1]))]=cX D IN (i+1):=by
 show Lc.enc (Lc.dec (cX D IN i)++[[max (gM D i 0) (min (gM IN i 0) (gM D i 1))]])=cX D IN (i+1)
 unfold cX
 rw[Lc.dec_enc,List.range_succ,List.map_append]
 rfl
theorem aH8 {D IN:Int} {n k:Nat} (h:k<n):gM (cX D IN n) k 0=max (gM D k 0) (min (gM IN k 0) (gM D k 1)):=by
 have e:gM (cX D IN n) k 0=IntKind.i32.wrap (((Lc.dec (cX D IN n)).getD (k:Int).toNat []).getD (0:Int).toNat 0):=rfl
 have e2:((List.range n).map fun (k:Nat)=>[max (gM D k 0) (min (gM IN k 0) (gM D k 1))]).getD k []=[max (gM D k 0) (min (gM IN k 0) (gM D k 1))]:=by
  rw[List.getD_eq_getElem?_getD,List.getElem?_map,List.getElem?_range h];rfl
 rw[e]
 unfold cX
 rw[Lc.dec_enc,Int.toNat_natCast,e2]
 show IntKind.i32.wrap (max (gM D k 0) (min (gM IN k 0) (gM D k 1)))=_
 have b0:=yA D k 0
 have b1:=yA D k 1
 have b2:=yA IN k 0
 exact gN .i32 _ (show (-2147483648:Int)≤_ by omega) (show _≤(2147483647:Int)by omega)
theorem aDU {w:Nat} {f g:Nat→List Int} {m:Nat} (h:∀ i,i<m→f i=g i) (k:Nat):fR w f m k=fR w g m k:=by
 unfold fR
 apply List.map_congr_left
 intro i hi
 rw[h i (by simpa using hi)]
theorem aHL {lo hi n nE t0 t1 x y:Int} (h:stY lo hi n nE t0 t1 x=stY lo hi n nE t0 t1 y):[aAn [lo,hi,n,nE,t0,t1,x],aAo [lo,hi,n,nE,t0,t1,x],aAj [lo,hi,n,nE,t0,t1,x]]=[aAn [lo,hi,n,nE,t0,t1,y],aAo [lo,hi,n,nE,t0,t1,y],aAj [lo,hi,n,nE,t0,t1,y]]:=by
 simp only[aAn,aAo,aAj,stS,h]
theorem aHZ {D S En nE IN m:Int} (hD:∀ k:Nat,(k:Int)<m→gM D k 0<gM D k 1):G 65 [D,S,En,nE,cX D IN m.toNat,m,m]=G 65 [D,S,En,nE,IN,m,m]:=by
 show Lc.enc (fR 3 (fun (i:Nat)=>mX D S En nE (cX D IN m.toNat) i) m.toNat m.toNat)=Lc.enc (fR 3 (fun (i:Nat)=>mX D S En nE IN i) m.toNat m.toNat)
 refine congrArg Lc.enc (aDU (fun i hi=>?_) m.toNat)
 have h:=hD i (by omega)
 have key:min (max (gM (cX D IN m.toNat) i 0) (gM D i 0)) (gM D i 1)=min (max (gM IN i 0) (gM D i 0)) (gM D i 1):=by
  rw[aH8 hi];omega
 have hy:∀ n t0 t1,stY (gM D i 0) (gM D i 1) n nE t0 t1 (gM (cX D IN m.toNat) i 0)=stY (gM D i 0) (gM D i 1) n nE t0 t1 (gM IN i 0):=by
  intro n t0 t1;unfold stY;rw[key]
 generalize cX D IN m.toNat=H at *
 show mX D S En nE H i=mX D S En nE IN i
 simp only[mX]
 exact aHL (hy (qT S i 0) (gM En i 0) (gM En i 1))
def aK2 (R nR X Y:Int):Prop:=∀ j:Nat,(j:Int)<nR→G 82 [X,j,0]=G 82 [Y,j,0]∧G 82 [R,j,0]≤G 82 [X,j,0]∧G 82 [X,j,0]≤G 82 [R,j,1]
theorem aAu {D S En nE IN m mm R nR B nB bits C:Int} (hD:∀ k:Nat,(k:Int)<m→gM D k 0<gM D k 1) (hR:∀ k:Nat,(k:Int)<nR→gM R k 0≤gM R k 1):
  aK2 R nR (G 73 [S,B,nB,bits,C,R,nR,G 65 [D,S,En,nE,IN,m,m],mm,nR]) (G 73 [S,B,nB,bits,C,R,nR,G 65 [D,S,En,nE,cX D IN m.toNat,m,m],mm,nR]):=by
 intro j hj
 rw[aHZ hD]
 refine⟨rfl,?_⟩
 rw[aIy hj]
 have h:=hR j hj
 unfold oU
 show gM R j 0≤_∧_≤gM R j 1
 omega
end Go.Proofs.Ytdldallkeheciaa
