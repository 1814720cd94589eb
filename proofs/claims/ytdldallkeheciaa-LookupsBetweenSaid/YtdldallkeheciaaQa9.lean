/- What is proved: the run of a function over its ways,and what is known on each. No condition. -/
import Derived.Test.YtdldallkeheciaaQa8
import Derived.Test.YtdldallkeheciaaQNn
import Derived.Test.YtdldallkeheciaaProg
import Derived.Test.YtdldallkeheciaaQa1
import Derived.Test.YtdldallkeheciaaQg3
import Derived.Test.YtdldallkeheciaaQa7
set_option linter.unusedSimpArgs false
set_option linter.unusedVariables false
set_option maxRecDepth 100000
namespace Go.Proofs.Ytdldallkeheciaa
open Go Go.RowKit Sx Wi Lk
def aFW (P:Program) (fs:List B):Res SV:=sJ P fs
def aHV:List B:=[]
def iO:B:=(.cmp .le (.lit 1) (.app 83 (.cons (.var 15) (.cons (.lit 0) (.cons (.lit 0) .nil)))))
def aIg:List B:=aI iO++aHV
def jS:B:=(.cmp .le (.app 83 (.cons (.var 15) (.cons (.lit 0) (.cons (.lit 0) .nil)))) (.lit 256))
def aJy:List B:=aI jS++aIg
def lC:B:=(.cmp .eq (.var 6) (.var 2))
def aDr:List B:=aI lC++aJy
def lN:B:=(.cmp .lt (.var 12) (.var 2))
def aJW:List B:=aI lN++aDr
def pB:B:=(.cmp .lt (.var 12) (.var 6))
def aJw:List B:=aI pB++aJW
def tV:B:=(.and (.cmp .le (.op .add (.op .add (.lit 0) (.op .mul (.op .mul (.lit 1) (.op .sub (.lit 65536) (.var 11))) (.app 67 (.cons (.var 18) (.cons (.var 7) (.cons (.op .mul (.op .add (.op .mul (.var 9) (.var 2)) (.var 12)) (.var 4)) (.cons (.var 4) .nil))))))) (.op .mul (.op .mul (.lit 1) (.var 11)) (.app 67 (.cons (.var 18) (.cons (.var 7) (.cons (.op .mul (.op .add (.op .mul (.var 10) (.var 2)) (.var 12)) (.var 4)) (.cons (.var 4) .nil))))))) (.op .mul (.op .sub (.op .shl (.lit 1) (.var 4)) (.lit 1)) (.op .shl (.lit 1) (.op .mul (.lit 16) (.var 3))))) (.cmp .le (.lit 0) (.op .add (.op .add (.lit 0) (.op .mul (.op .mul (.lit 1) (.op .sub (.lit 65536) (.var 11))) (.app 67 (.cons (.var 18) (.cons (.var 7) (.cons (.op .mul (.op .add (.op .mul (.var 9) (.var 2)) (.var 12)) (.var 4)) (.cons (.var 4) .nil))))))) (.op .mul (.op .mul (.lit 1) (.var 11)) (.app 67 (.cons (.var 18) (.cons (.var 7) (.cons (.op .mul (.op .add (.op .mul (.var 10) (.var 2)) (.var 12)) (.var 4)) (.cons (.var 4) .nil)))))))))
def aJz:List B:=aI tV++aJw
def aCU:SV:=(.agg [(.int .i64 (.op .add (.var 12) (.lit 1))),(.int .i64 (.var 12)),(.int .i64 (.var 13)),(.int .i64 (.var 13)),(.int .i64 (.var 14)),(.int .i64 (.var 14)),(.int .i64 (.var 15)),(.int .i64 (.var 15)),(.int .i64 (.var 16)),(.int .i64 (.var 16)),(.int .i64 (.var 17)),(.int .i64 (.var 17)),(.int .i64 (.var 18)),(.int .i64 (.var 18)),(.int .i64 (.var 9)),(.int .i64 (.var 9)),(.int .i64 (.var 10)),(.int .i64 (.var 10)),(.int .i64 (.var 11)),(.int .i64 (.var 11)),(.int .i64 (.app 92 (.cons (.var 19) (.cons (.var 12) (.cons (.op .min (.op .max (.app 68 (.cons (.var 3) (.cons (.var 4) (.cons (.app 82 (.cons (.var 17) (.cons (.var 12) (.cons (.lit 0) .nil)))) (.cons (.app 82 (.cons (.var 17) (.cons (.var 12) (.cons (.lit 1) .nil)))) (.cons (.op .add (.op .add (.lit 0) (.op .mul (.op .mul (.lit 1) (.op .sub (.lit 65536) (.var 11))) (.app 67 (.cons (.var 18) (.cons (.var 7) (.cons (.op .mul (.op .add (.op .mul (.var 9) (.var 2)) (.var 12)) (.var 4)) (.cons (.var 4) .nil))))))) (.op .mul (.op .mul (.lit 1) (.var 11)) (.app 67 (.cons (.var 18) (.cons (.var 7) (.cons (.op .mul (.op .add (.op .mul (.var 10) (.var 2)) (.var 12)) (.var 4)) (.cons (.var 4) .nil))))))) .nil)))))) (.app 82 (.cons (.var 14) (.cons (.var 12) (.cons (.lit 0) .nil))))) (.app 82 (.cons (.var 14) (.cons (.var 12) (.cons (.lit 1) .nil))))) .nil))))),(.int .i64 (.var 19))])
def aIY:List B:=aI (B.neg lN)++aDr
def aCD:SV:=(.tuple [(.agg [(.int .i64 (.var 13)),(.int .i64 (.var 9)),(.int .i64 (.var 14)),(.int .i64 (.var 10)),(.int .i64 (.var 15)),(.int .i64 (.var 11)),(.int .i64 (.var 16)),(.int .i64 (.var 12)),(.int .i64 (.var 17)),(.int .i64 (.var 13)),(.int .i64 (.var 18)),(.int .i64 (.var 14)),(.int .i64 (.var 19)),(.int .i64 (.app 70 (.cons (.var 11) (.cons (.var 14) (.cons (.var 7) (.cons (.var 4) (.cons (.var 13) (.cons (.var 10) (.cons (.var 2) (.cons (.var 2) (.cons (.app 60 (.cons (.app 82 (.cons (.var 9) (.cons (.lit 0) (.cons (.lit 0) .nil)))) (.cons (.app 82 (.cons (.var 9) (.cons (.lit 0) (.cons (.lit 1) .nil)))) (.cons (.app 83 (.cons (.var 11) (.cons (.lit 0) (.cons (.lit 0) .nil)))) (.cons (.var 5) (.cons (.app 82 (.cons (.var 12) (.cons (.lit 0) (.cons (.lit 0) .nil)))) (.cons (.app 82 (.cons (.var 12) (.cons (.lit 0) (.cons (.lit 1) .nil)))) (.cons (.var 8) .nil)))))))) (.cons (.app 61 (.cons (.app 82 (.cons (.var 9) (.cons (.lit 0) (.cons (.lit 0) .nil)))) (.cons (.app 82 (.cons (.var 9) (.cons (.lit 0) (.cons (.lit 1) .nil)))) (.cons (.app 83 (.cons (.var 11) (.cons (.lit 0) (.cons (.lit 0) .nil)))) (.cons (.var 5) (.cons (.app 82 (.cons (.var 12) (.cons (.lit 0) (.cons (.lit 0) .nil)))) (.cons (.app 82 (.cons (.var 12) (.cons (.lit 0) (.cons (.lit 1) .nil)))) (.cons (.var 8) .nil)))))))) (.cons (.app 62 (.cons (.app 82 (.cons (.var 9) (.cons (.lit 0) (.cons (.lit 0) .nil)))) (.cons (.app 82 (.cons (.var 9) (.cons (.lit 0) (.cons (.lit 1) .nil)))) (.cons (.app 83 (.cons (.var 11) (.cons (.lit 0) (.cons (.lit 0) .nil)))) (.cons (.var 5) (.cons (.app 82 (.cons (.var 12) (.cons (.lit 0) (.cons (.lit 0) .nil)))) (.cons (.app 82 (.cons (.var 12) (.cons (.lit 0) (.cons (.lit 1) .nil)))) (.cons (.var 8) .nil)))))))) .nil)))))))))))))]),(.bool (.lit true))])
theorem aKz:aFW Try.prog aJz = .ok aCU:=by kernel_rfl
theorem aKi:aFW Try.prog aIY = .ok aCD:=by kernel_rfl
end Go.Proofs.Ytdldallkeheciaa
namespace Go.Proofs.Ytdldallkeheciaa
open Go Go.RowKit Sx Wi Lk
def dA (x0 x1 x2 x3 x4 x5 x6 x7 x8 x9 x10 x11 l0 l1 l2 l3 l4 l5:Int) (j:Nat):Nat→Int:=dM ([x0,x1,x2,x3,x4,x5,x6,x7,x8,x9,x10,x11]++[(j:Int),l0,l1,l2,l3,l4,l5,G 70 (l2::l5::x7::x4::l4::l1::x2::(j:Int)::[x9,x10,x11])])
theorem aGX (x0 x1 x2 x3 x4 x5 x6 x7 x8 x9 x10 x11 l0 l1 l2 l3 l4 l5:Int) (b0:0≤x0∧x0≤255) (b1:0≤x1∧x1≤8) (b2:1≤x2∧x2≤4) (b3:1≤x3∧x3≤1) (b4:1≤x4∧x4≤16) (b5:0≤x5∧x5≤8) (b6:0≤x6∧x6≤8) (b7:0≤x7∧x7≤70000) (b8:(-2147483648)≤x8∧x8≤2147483647) (b9:0≤x9∧x9≤255) (b10:0≤x10∧x10≤255) (b11:0≤x11∧x11≤65536) (j:Nat) (hj:(j:Int)≤x2):∀ i q,qP[i]?=some q→q.1≤dA x0 x1 x2 x3 x4 x5 x6 x7 x8 x9 x10 x11 l0 l1 l2 l3 l4 l5 j i∧dA x0 x1 x2 x3 x4 x5 x6 x7 x8 x9 x10 x11 l0 l1 l2 l3 l4 l5 j i≤q.2:=by
 unfold dA qP
 exact cM (xs:=[x0,x1,x2,x3,x4,x5,x6,x7,x8,x9,x10,x11]++[(j:Int)]) (ls:=[l0,l1,l2,l3,l4,l5,G 70 (l2::l5::x7::x4::l4::l1::x2::(j:Int)::[x9,x10,x11])]) (by exact⟨b0,b1,b2,b3,b4,b5,b6,b7,b8,b9,b10,b11,by omega,trivial⟩)
set_option maxHeartbeats 8000000 in
set_option maxRecDepth 100000 in
theorem aIR (x0 x1 x2 x3 x4 x5 x6 x7 x8 x9 x10 x11 l0 l1 l2 l3 l4 l5:Int) (b0:0≤x0∧x0≤255) (b1:0≤x1∧x1≤8) (b2:1≤x2∧x2≤4) (b3:1≤x3∧x3≤1) (b4:1≤x4∧x4≤16) (b5:0≤x5∧x5≤8) (b6:0≤x6∧x6≤8) (b7:0≤x7∧x7≤70000) (b8:(-2147483648)≤x8∧x8≤2147483647) (b9:0≤x9∧x9≤255) (b10:0≤x10∧x10≤255) (b11:0≤x11∧x11≤65536) (s0:1≤G 83 [l2,0,0]∧G 83 [l2,0,0]≤256) (hc:x6=x2) (hp9:x9=G 60 [G 82 [l0,0,0],G 82 [l0,0,1],G 83 [l2,0,0],x5,G 82 [l3,0,0],G 82 [l3,0,1],x8]) (hp10:x10=G 61 [G 82 [l0,0,0],G 82 [l0,0,1],G 83 [l2,0,0],x5,G 82 [l3,0,0],G 82 [l3,0,1],x8]) (hp11:x11=G 62 [G 82 [l0,0,0],G 82 [l0,0,1],G 83 [l2,0,0],x5,G 82 [l3,0,0],G 82 [l3,0,1],x8]) (j:Nat) (hj:(j:Int)≤x2):Sx.Way (sJ Try.prog) G (dA x0 x1 x2 x3 x4 x5 x6 x7 x8 x9 x10 x11 l0 l1 l2 l3 l4 l5 j) (fB G (dA x0 x1 x2 x3 x4 x5 x6 x7 x8 x9 x10 x11 l0 l1 l2 l3 l4 l5) (dM ([x0,x1,x2,x3,x4,x5,x6,x7,x8]++[l0,l1,l2,l3,l4,l5])) 9 (.lit true) (fun j=>(j:Int)≤x2) (fun j=>x2.toNat-j) j) []:=by
 have hx1:x3=1:=by omega
 subst hx1
 refine aF iO (fun h0=>?_) (fun h0=>?_)
 rotate_left
 ·skip
  refine aU ?_
  unfold iO at h0;exfalso;simp only[nn,dA,List.cons_append,List.nil_append,Bool.or_eq_true,aR,ne_eq]at h0;omega
 refine aF jS (fun h1=>?_) (fun h1=>?_)
 rotate_left
 ·skip
  refine aU ?_
  unfold iO at h0;unfold jS at h1;exfalso;clear h0;simp only[nn,dA,List.cons_append,List.nil_append,Bool.or_eq_true,aR,ne_eq]at h1;omega
 refine aF lC (fun h2=>?_) (fun h2=>?_)
 rotate_left
 ·skip
  refine aU ?_
  unfold iO at h0;unfold jS at h1;unfold lC at h2;exfalso;clear h0 h1;simp only[nn,dA,List.cons_append,List.nil_append,Bool.or_eq_true,aR,ne_eq]at h2;omega
 refine aF lN (fun h3=>?_) (fun h3=>?_)
 rotate_left
 ·skip
  refine aH aKi ?_
  unfold iO at h0;unfold jS at h1;unfold lC at h2;unfold lN at h3;unfold aCD;simp only[nn,dA,List.cons_append,List.nil_append,Bool.or_eq_true,aR,ne_eq]at h3;have he:(j:Int)=x2:=(by omega);clear h0 h1 h2 h3;simp only[fB];refine⟨rfl,(fun i hi=>by (match i,hi with|0,_=>rfl|1,_=>rfl|2,_=>rfl|3,_=>rfl|4,_=>rfl|5,_=>rfl|6,_=>rfl|7,_=>rfl|8,_=>rfl)),?_⟩;simp only[aJ];simp only[nn,dA,List.cons_append,List.nil_append,Bool.or_eq_true,aR,ne_eq];rw[he,hp9,hp10,hp11];(repeat' refine And.intro ?_ ?_)<;>first|with_reducible rfl|trivial|rfl
 refine aF pB (fun h4=>?_) (fun h4=>?_)
 rotate_left
 ·skip
  refine aU ?_
  unfold iO at h0;unfold jS at h1;unfold lC at h2;unfold lN at h3;unfold pB at h4;exfalso;clear h0 h1 h2;simp only[nn,dA,List.cons_append,List.nil_append,Bool.or_eq_true,aR,ne_eq]at h3 h4;omega
 refine aF tV (fun h5=>?_) (fun h5=>?_)
 ·skip
  refine aH aKz ?_
  unfold iO at h0;unfold jS at h1;unfold lC at h2;unfold lN at h3;unfold pB at h4;unfold tV at h5;unfold aCU;simp only[nn,dA,List.cons_append,List.nil_append,Bool.or_eq_true,aR,ne_eq]at h3;have hm:x2.toNat-(j+1)<x2.toNat-j:=(by omega);have hg:((j+1:Nat):Int)≤x2:=(by omega);have hlt:(j:Int)<x2:=(by omega);clear h0 h1 h2 h3 h4 h5;have ht:=aCA l2 l5 x7 x4 x2 x9 x10 x11 j;simp only[fB];refine⟨j+1,hg,hm,aFk (by simp),?_⟩;simp only[aJ];simp only[nn,dA,List.cons_append,List.nil_append,Bool.or_eq_true,aR,ne_eq];refine⟨by omega,?_,trivial⟩;refine aCE hlt ?_;rw[←ht];exact(aBu (m:=1) (M:=1) rfl rfl _).symm
 refine aU ?_
 unfold iO at h0;unfold jS at h1;unfold lC at h2;unfold lN at h3;unfold pB at h4;unfold tV at h5;exfalso;have ht:=aCA l2 l5 x7 x4 x2 x9 x10 x11 j;obtain⟨t0,t1⟩:=aJe (S:=l2) (B:=l5) (nB:=x7) (nR:=x2) (j:=j) (ps:=[x9,x10,x11]) (m:=1) b4 (fun i hi=>by (match i,hi with|0,_=>exact b11));rw[ht]at t0 t1;have e0:(65536:Int) ^ 1=1*2 ^ (16*1:Int).toNat:=rfl;rw[e0]at t1;clear h0 h1 h2 h3 h4;(try simp only[Bool.and_eq_false_iff]at h5);apply absurd h5;rw[Bool.not_eq_false];simp only[nn,dA,List.cons_append,List.nil_append,Bool.or_eq_true,aR,ne_eq];exact⟨t1,t0⟩
def aOy:List E:=[(.var 0),(.var 1),(.var 2),(.var 3),(.var 4),(.var 5),(.var 6),(.var 7),(.var 8),(.app 60 (.cons (.app 82 (.cons (.var 9) (.cons (.lit 0) (.cons (.lit 0) .nil)))) (.cons (.app 82 (.cons (.var 9) (.cons (.lit 0) (.cons (.lit 1) .nil)))) (.cons (.app 83 (.cons (.var 11) (.cons (.lit 0) (.cons (.lit 0) .nil)))) (.cons (.var 5) (.cons (.app 82 (.cons (.var 12) (.cons (.lit 0) (.cons (.lit 0) .nil)))) (.cons (.app 82 (.cons (.var 12) (.cons (.lit 0) (.cons (.lit 1) .nil)))) (.cons (.var 8) .nil)))))))),(.app 61 (.cons (.app 82 (.cons (.var 9) (.cons (.lit 0) (.cons (.lit 0) .nil)))) (.cons (.app 82 (.cons (.var 9) (.cons (.lit 0) (.cons (.lit 1) .nil)))) (.cons (.app 83 (.cons (.var 11) (.cons (.lit 0) (.cons (.lit 0) .nil)))) (.cons (.var 5) (.cons (.app 82 (.cons (.var 12) (.cons (.lit 0) (.cons (.lit 0) .nil)))) (.cons (.app 82 (.cons (.var 12) (.cons (.lit 0) (.cons (.lit 1) .nil)))) (.cons (.var 8) .nil)))))))),(.app 62 (.cons (.app 82 (.cons (.var 9) (.cons (.lit 0) (.cons (.lit 0) .nil)))) (.cons (.app 82 (.cons (.var 9) (.cons (.lit 0) (.cons (.lit 1) .nil)))) (.cons (.app 83 (.cons (.var 11) (.cons (.lit 0) (.cons (.lit 0) .nil)))) (.cons (.var 5) (.cons (.app 82 (.cons (.var 12) (.cons (.lit 0) (.cons (.lit 0) .nil)))) (.cons (.app 82 (.cons (.var 12) (.cons (.lit 0) (.cons (.lit 1) .nil)))) (.cons (.var 8) .nil)))))))),(.lit 0),(.var 9),(.var 10),(.var 11),(.var 12),(.var 13),(.var 14),(.app 96 (.cons (.var 2) (.cons (.lit 0) .nil)))]
def aBj:LoopU:=⟨aHU,aOy,qP,(.and (.cmp .le (.lit 1) (.app 83 (.cons (.var 15) (.cons (.lit 0) (.cons (.lit 0) .nil))))) (.and (.cmp .le (.app 83 (.cons (.var 15) (.cons (.lit 0) (.cons (.lit 0) .nil)))) (.lit 256)) (.cmp .eq (.var 6) (.var 2))))⟩
def aF6:fU:=rX 17 (lW (bU GB) [aBj]) eG
def fZ:B:=(.and (.and (.and (.cmp .eq (.var 0) (.lit 1)) (.and (.cmp .lt (.lit 0) (.var 1)) (.and (.cmp .le (.var 1) (.lit 4)) (.and (B.neg (.or (.and (.cmp .lt (.lit 0) (.var 1)) (.cmp .le (.app 82 (.cons (.var 9) (.cons (.lit 0) (.cons (.lit 1) .nil)))) (.app 82 (.cons (.var 9) (.cons (.lit 0) (.cons (.lit 0) .nil)))))) (.or (.and (.cmp .lt (.lit 1) (.var 1)) (.cmp .le (.app 82 (.cons (.var 9) (.cons (.lit 1) (.cons (.lit 1) .nil)))) (.app 82 (.cons (.var 9) (.cons (.lit 1) (.cons (.lit 0) .nil)))))) (.or (.and (.cmp .lt (.lit 2) (.var 1)) (.cmp .le (.app 82 (.cons (.var 9) (.cons (.lit 2) (.cons (.lit 1) .nil)))) (.app 82 (.cons (.var 9) (.cons (.lit 2) (.cons (.lit 0) .nil)))))) (.and (.cmp .lt (.lit 3) (.var 1)) (.cmp .le (.app 82 (.cons (.var 9) (.cons (.lit 3) (.cons (.lit 1) .nil)))) (.app 82 (.cons (.var 9) (.cons (.lit 3) (.cons (.lit 0) .nil)))))))))) (.and (.cmp .lt (.lit 0) (.var 2)) (.and (.cmp .le (.var 2) (.lit 4)) (.and (B.neg (.or (.and (.cmp .lt (.lit 0) (.var 2)) (.cmp .lt (.app 82 (.cons (.var 10) (.cons (.lit 0) (.cons (.lit 1) .nil)))) (.app 82 (.cons (.var 10) (.cons (.lit 0) (.cons (.lit 0) .nil)))))) (.or (.and (.cmp .lt (.lit 1) (.var 2)) (.cmp .lt (.app 82 (.cons (.var 10) (.cons (.lit 1) (.cons (.lit 1) .nil)))) (.app 82 (.cons (.var 10) (.cons (.lit 1) (.cons (.lit 0) .nil)))))) (.or (.and (.cmp .lt (.lit 2) (.var 2)) (.cmp .lt (.app 82 (.cons (.var 10) (.cons (.lit 2) (.cons (.lit 1) .nil)))) (.app 82 (.cons (.var 10) (.cons (.lit 2) (.cons (.lit 0) .nil)))))) (.and (.cmp .lt (.lit 3) (.var 2)) (.cmp .lt (.app 82 (.cons (.var 10) (.cons (.lit 3) (.cons (.lit 1) .nil)))) (.app 82 (.cons (.var 10) (.cons (.lit 3) (.cons (.lit 0) .nil)))))))))) (.and (.cmp .eq (.var 3) (.var 1)) (.and (B.neg (.or (.and (.cmp .lt (.lit 0) (.var 3)) (.or (.cmp .lt (.app 83 (.cons (.var 11) (.cons (.lit 0) (.cons (.lit 0) .nil)))) (.lit 1)) (.cmp .lt (.lit 256) (.app 83 (.cons (.var 11) (.cons (.lit 0) (.cons (.lit 0) .nil))))))) (.or (.and (.cmp .lt (.lit 1) (.var 3)) (.or (.cmp .lt (.app 83 (.cons (.var 11) (.cons (.lit 1) (.cons (.lit 0) .nil)))) (.lit 1)) (.cmp .lt (.lit 256) (.app 83 (.cons (.var 11) (.cons (.lit 1) (.cons (.lit 0) .nil))))))) (.or (.and (.cmp .lt (.lit 2) (.var 3)) (.or (.cmp .lt (.app 83 (.cons (.var 11) (.cons (.lit 2) (.cons (.lit 0) .nil)))) (.lit 1)) (.cmp .lt (.lit 256) (.app 83 (.cons (.var 11) (.cons (.lit 2) (.cons (.lit 0) .nil))))))) (.or (.and (.cmp .lt (.lit 3) (.var 3)) (.or (.cmp .lt (.app 83 (.cons (.var 11) (.cons (.lit 3) (.cons (.lit 0) .nil)))) (.lit 1)) (.cmp .lt (.lit 256) (.app 83 (.cons (.var 11) (.cons (.lit 3) (.cons (.lit 0) .nil))))))) (.or (.and (.cmp .lt (.lit 4) (.var 3)) (.or (.cmp .lt (.app 83 (.cons (.var 11) (.cons (.lit 4) (.cons (.lit 0) .nil)))) (.lit 1)) (.cmp .lt (.lit 256) (.app 83 (.cons (.var 11) (.cons (.lit 4) (.cons (.lit 0) .nil))))))) (.or (.and (.cmp .lt (.lit 5) (.var 3)) (.or (.cmp .lt (.app 83 (.cons (.var 11) (.cons (.lit 5) (.cons (.lit 0) .nil)))) (.lit 1)) (.cmp .lt (.lit 256) (.app 83 (.cons (.var 11) (.cons (.lit 5) (.cons (.lit 0) .nil))))))) (.or (.and (.cmp .lt (.lit 6) (.var 3)) (.or (.cmp .lt (.app 83 (.cons (.var 11) (.cons (.lit 6) (.cons (.lit 0) .nil)))) (.lit 1)) (.cmp .lt (.lit 256) (.app 83 (.cons (.var 11) (.cons (.lit 6) (.cons (.lit 0) .nil))))))) (.and (.cmp .lt (.lit 7) (.var 3)) (.or (.cmp .lt (.app 83 (.cons (.var 11) (.cons (.lit 7) (.cons (.lit 0) .nil)))) (.lit 1)) (.cmp .lt (.lit 256) (.app 83 (.cons (.var 11) (.cons (.lit 7) (.cons (.lit 0) .nil))))))))))))))) (.and (.or (.cmp .eq (.var 4) (.lit 1)) (.or (.cmp .eq (.var 4) (.lit 2)) (.or (.cmp .eq (.var 4) (.lit 4)) (.or (.cmp .eq (.var 4) (.lit 8)) (.or (.cmp .eq (.var 4) (.lit 12)) (.cmp .eq (.var 4) (.lit 16))))))) (.and (.or (.cmp .eq (.var 5) (.lit 0)) (.cmp .eq (.var 5) (.var 1))) (.or (.cmp .eq (.var 6) (.lit 0)) (.cmp .eq (.var 6) (.var 2)))))))))))))) (.and (.cmp .le (.app 63 (.cons (.var 2) (.cons (.var 4) (.cons (.var 11) (.cons (.var 3) .nil))))) (.lit 524288)) (.cmp .le (.app 63 (.cons (.var 2) (.cons (.var 4) (.cons (.var 11) (.cons (.var 3) .nil))))) (.op .mul (.lit 8) (.var 7))))) (.and (.cmp .eq (.var 6) (.var 2)) (.cmp .lt (.lit 0) (.var 6))))
def aEm:FunS:=⟨[(.agg [(.int .u8 (.var 0)),(.own 0 (.var 1) none),(.own 1 (.var 2) none),(.own 2 (.var 3) none),(.int .i64 (.var 4)),(.own 3 (.var 5) none),(.own 4 (.var 6) none),(.own 5 (.var 7) none),.any,.any,.any,.any,.any,.any]),(.slice 6 0 1 1)],[some ([.vec [.int .i32,.int .i32] (.var 9) (.var 1) true],aG),some ([.vec [.int .i32,.int .i32] (.var 10) (.var 2) true],aG),some ([.vec [.int .i64] (.var 11) (.var 3) true],aG),some ([.vec [.int .i32,.int .i32] (.var 12) (.var 5) true],aG),some ([.vec [.int .i32,.int .i32] (.var 13) (.var 6) true],aG),some ([.vec [.int .u8] (.var 14) (.var 7) true],aG),some ([(.int .i32 (.var 8))],27)],.lit true,(.tuple [(.own 7 (.var 2) (some (.var 2))),(.int .i64 (.lit 0))]),[some ([.vec [.int .i32,.int .i32] (.var 9) (.var 1) true],aG),some ([.vec [.int .i32,.int .i32] (.var 10) (.var 2) true],aG),some ([.vec [.int .i64] (.var 11) (.var 3) true],aG),some ([.vec [.int .i32,.int .i32] (.var 12) (.var 5) true],aG),some ([.vec [.int .i32,.int .i32] (.var 13) (.var 6) true],aG),some ([.vec [.int .u8] (.var 14) (.var 7) true],aG),some ([(.int .i32 (.var 8))],27),some ([.vec [.int .i32] (.app 70 (.cons (.var 11) (.cons (.var 14) (.cons (.var 7) (.cons (.var 4) (.cons (.var 13) (.cons (.var 10) (.cons (.var 2) (.cons (.var 2) (.cons (.app 60 (.cons (.app 82 (.cons (.var 9) (.cons (.lit 0) (.cons (.lit 0) .nil)))) (.cons (.app 82 (.cons (.var 9) (.cons (.lit 0) (.cons (.lit 1) .nil)))) (.cons (.app 83 (.cons (.var 11) (.cons (.lit 0) (.cons (.lit 0) .nil)))) (.cons (.var 5) (.cons (.app 82 (.cons (.var 12) (.cons (.lit 0) (.cons (.lit 0) .nil)))) (.cons (.app 82 (.cons (.var 12) (.cons (.lit 0) (.cons (.lit 1) .nil)))) (.cons (.var 8) .nil)))))))) (.cons (.app 61 (.cons (.app 82 (.cons (.var 9) (.cons (.lit 0) (.cons (.lit 0) .nil)))) (.cons (.app 82 (.cons (.var 9) (.cons (.lit 0) (.cons (.lit 1) .nil)))) (.cons (.app 83 (.cons (.var 11) (.cons (.lit 0) (.cons (.lit 0) .nil)))) (.cons (.var 5) (.cons (.app 82 (.cons (.var 12) (.cons (.lit 0) (.cons (.lit 0) .nil)))) (.cons (.app 82 (.cons (.var 12) (.cons (.lit 0) (.cons (.lit 1) .nil)))) (.cons (.var 8) .nil)))))))) (.cons (.app 62 (.cons (.app 82 (.cons (.var 9) (.cons (.lit 0) (.cons (.lit 0) .nil)))) (.cons (.app 82 (.cons (.var 9) (.cons (.lit 0) (.cons (.lit 1) .nil)))) (.cons (.app 83 (.cons (.var 11) (.cons (.lit 0) (.cons (.lit 0) .nil)))) (.cons (.var 5) (.cons (.app 82 (.cons (.var 12) (.cons (.lit 0) (.cons (.lit 0) .nil)))) (.cons (.app 82 (.cons (.var 12) (.cons (.lit 0) (.cons (.lit 1) .nil)))) (.cons (.var 8) .nil)))))))) .nil)))))))))))) (.var 2) true],aZ+27)],(.tuple [(.own 7 (.var 2) (some (.var 2))),(.int .i64 (.lit 0))]),[some ([.vec [.int .i32,.int .i32] (.var 9) (.var 1) true],aG),some ([.vec [.int .i32,.int .i32] (.var 10) (.var 2) true],aG),some ([.vec [.int .i64] (.var 11) (.var 3) true],aG),some ([.vec [.int .i32,.int .i32] (.var 12) (.var 5) true],aG),some ([.vec [.int .i32,.int .i32] (.var 13) (.var 6) true],aG),some ([.vec [.int .u8] (.var 14) (.var 7) true],aG),some ([(.int .i32 (.var 8))],27),some ([.vec [.int .i32] (.app 70 (.cons (.var 11) (.cons (.var 14) (.cons (.var 7) (.cons (.var 4) (.cons (.var 13) (.cons (.var 10) (.cons (.var 2) (.cons (.var 2) (.cons (.app 60 (.cons (.app 82 (.cons (.var 9) (.cons (.lit 0) (.cons (.lit 0) .nil)))) (.cons (.app 82 (.cons (.var 9) (.cons (.lit 0) (.cons (.lit 1) .nil)))) (.cons (.app 83 (.cons (.var 11) (.cons (.lit 0) (.cons (.lit 0) .nil)))) (.cons (.var 5) (.cons (.app 82 (.cons (.var 12) (.cons (.lit 0) (.cons (.lit 0) .nil)))) (.cons (.app 82 (.cons (.var 12) (.cons (.lit 0) (.cons (.lit 1) .nil)))) (.cons (.var 8) .nil)))))))) (.cons (.app 61 (.cons (.app 82 (.cons (.var 9) (.cons (.lit 0) (.cons (.lit 0) .nil)))) (.cons (.app 82 (.cons (.var 9) (.cons (.lit 0) (.cons (.lit 1) .nil)))) (.cons (.app 83 (.cons (.var 11) (.cons (.lit 0) (.cons (.lit 0) .nil)))) (.cons (.var 5) (.cons (.app 82 (.cons (.var 12) (.cons (.lit 0) (.cons (.lit 0) .nil)))) (.cons (.app 82 (.cons (.var 12) (.cons (.lit 0) (.cons (.lit 1) .nil)))) (.cons (.var 8) .nil)))))))) (.cons (.app 62 (.cons (.app 82 (.cons (.var 9) (.cons (.lit 0) (.cons (.lit 0) .nil)))) (.cons (.app 82 (.cons (.var 9) (.cons (.lit 0) (.cons (.lit 1) .nil)))) (.cons (.app 83 (.cons (.var 11) (.cons (.lit 0) (.cons (.lit 0) .nil)))) (.cons (.var 5) (.cons (.app 82 (.cons (.var 12) (.cons (.lit 0) (.cons (.lit 0) .nil)))) (.cons (.app 82 (.cons (.var 12) (.cons (.lit 0) (.cons (.lit 1) .nil)))) (.cons (.var 8) .nil)))))))) .nil)))))))))))) (.var 2) true],aZ+27)]⟩
def aCC (P:Program) (fs:List B):Res SV:=cO G GI [(0,255),(1,1),(0,8),(1,1),((-9223372036854775808),9223372036854775807),(0,8),(0,8),(0,70000),((-2147483648),2147483647)] fs fun X=>gQ P X GB aAF aF6 4000 11 aEm
theorem aEB:bM (fF Try.prog 11)=[iU (fF Try.prog 11) 0,iU (fF Try.prog 11) 1]:=by kernel_rfl
theorem aDm:bF (iU (fF Try.prog 11) 1)=(bR Try.prog 11).toList:=by kernel_rfl
end Go.Proofs.Ytdldallkeheciaa
set_option maxRecDepth 100000
namespace Go.Proofs.Ytdldallkeheciaa
open Go Go.RowKit Sx Wi Lk
def aQG (P:Program) (fs:List B):Res SV:=aCC P fs
def aKH:List B:=[]
def fM:B:=(.and (.and (.cmp .eq (.var 0) (.lit 1)) (.and (.cmp .lt (.lit 0) (.var 1)) (.and (.cmp .le (.var 1) (.lit 4)) (.and (B.neg (.or (.and (.cmp .lt (.lit 0) (.var 1)) (.cmp .le (.app 82 (.cons (.var 9) (.cons (.lit 0) (.cons (.lit 1) .nil)))) (.app 82 (.cons (.var 9) (.cons (.lit 0) (.cons (.lit 0) .nil)))))) (.or (.and (.cmp .lt (.lit 1) (.var 1)) (.cmp .le (.app 82 (.cons (.var 9) (.cons (.lit 1) (.cons (.lit 1) .nil)))) (.app 82 (.cons (.var 9) (.cons (.lit 1) (.cons (.lit 0) .nil)))))) (.or (.and (.cmp .lt (.lit 2) (.var 1)) (.cmp .le (.app 82 (.cons (.var 9) (.cons (.lit 2) (.cons (.lit 1) .nil)))) (.app 82 (.cons (.var 9) (.cons (.lit 2) (.cons (.lit 0) .nil)))))) (.and (.cmp .lt (.lit 3) (.var 1)) (.cmp .le (.app 82 (.cons (.var 9) (.cons (.lit 3) (.cons (.lit 1) .nil)))) (.app 82 (.cons (.var 9) (.cons (.lit 3) (.cons (.lit 0) .nil)))))))))) (.and (.cmp .lt (.lit 0) (.var 2)) (.and (.cmp .le (.var 2) (.lit 4)) (.and (B.neg (.or (.and (.cmp .lt (.lit 0) (.var 2)) (.cmp .lt (.app 82 (.cons (.var 10) (.cons (.lit 0) (.cons (.lit 1) .nil)))) (.app 82 (.cons (.var 10) (.cons (.lit 0) (.cons (.lit 0) .nil)))))) (.or (.and (.cmp .lt (.lit 1) (.var 2)) (.cmp .lt (.app 82 (.cons (.var 10) (.cons (.lit 1) (.cons (.lit 1) .nil)))) (.app 82 (.cons (.var 10) (.cons (.lit 1) (.cons (.lit 0) .nil)))))) (.or (.and (.cmp .lt (.lit 2) (.var 2)) (.cmp .lt (.app 82 (.cons (.var 10) (.cons (.lit 2) (.cons (.lit 1) .nil)))) (.app 82 (.cons (.var 10) (.cons (.lit 2) (.cons (.lit 0) .nil)))))) (.and (.cmp .lt (.lit 3) (.var 2)) (.cmp .lt (.app 82 (.cons (.var 10) (.cons (.lit 3) (.cons (.lit 1) .nil)))) (.app 82 (.cons (.var 10) (.cons (.lit 3) (.cons (.lit 0) .nil)))))))))) (.and (.cmp .eq (.var 3) (.var 1)) (.and (B.neg (.or (.and (.cmp .lt (.lit 0) (.var 3)) (.or (.cmp .lt (.app 83 (.cons (.var 11) (.cons (.lit 0) (.cons (.lit 0) .nil)))) (.lit 1)) (.cmp .lt (.lit 256) (.app 83 (.cons (.var 11) (.cons (.lit 0) (.cons (.lit 0) .nil))))))) (.or (.and (.cmp .lt (.lit 1) (.var 3)) (.or (.cmp .lt (.app 83 (.cons (.var 11) (.cons (.lit 1) (.cons (.lit 0) .nil)))) (.lit 1)) (.cmp .lt (.lit 256) (.app 83 (.cons (.var 11) (.cons (.lit 1) (.cons (.lit 0) .nil))))))) (.or (.and (.cmp .lt (.lit 2) (.var 3)) (.or (.cmp .lt (.app 83 (.cons (.var 11) (.cons (.lit 2) (.cons (.lit 0) .nil)))) (.lit 1)) (.cmp .lt (.lit 256) (.app 83 (.cons (.var 11) (.cons (.lit 2) (.cons (.lit 0) .nil))))))) (.or (.and (.cmp .lt (.lit 3) (.var 3)) (.or (.cmp .lt (.app 83 (.cons (.var 11) (.cons (.lit 3) (.cons (.lit 0) .nil)))) (.lit 1)) (.cmp .lt (.lit 256) (.app 83 (.cons (.var 11) (.cons (.lit 3) (.cons (.lit 0) .nil))))))) (.or (.and (.cmp .lt (.lit 4) (.var 3)) (.or (.cmp .lt (.app 83 (.cons (.var 11) (.cons (.lit 4) (.cons (.lit 0) .nil)))) (.lit 1)) (.cmp .lt (.lit 256) (.app 83 (.cons (.var 11) (.cons (.lit 4) (.cons (.lit 0) .nil))))))) (.or (.and (.cmp .lt (.lit 5) (.var 3)) (.or (.cmp .lt (.app 83 (.cons (.var 11) (.cons (.lit 5) (.cons (.lit 0) .nil)))) (.lit 1)) (.cmp .lt (.lit 256) (.app 83 (.cons (.var 11) (.cons (.lit 5) (.cons (.lit 0) .nil))))))) (.or (.and (.cmp .lt (.lit 6) (.var 3)) (.or (.cmp .lt (.app 83 (.cons (.var 11) (.cons (.lit 6) (.cons (.lit 0) .nil)))) (.lit 1)) (.cmp .lt (.lit 256) (.app 83 (.cons (.var 11) (.cons (.lit 6) (.cons (.lit 0) .nil))))))) (.and (.cmp .lt (.lit 7) (.var 3)) (.or (.cmp .lt (.app 83 (.cons (.var 11) (.cons (.lit 7) (.cons (.lit 0) .nil)))) (.lit 1)) (.cmp .lt (.lit 256) (.app 83 (.cons (.var 11) (.cons (.lit 7) (.cons (.lit 0) .nil))))))))))))))) (.and (.or (.cmp .eq (.var 4) (.lit 1)) (.or (.cmp .eq (.var 4) (.lit 2)) (.or (.cmp .eq (.var 4) (.lit 4)) (.or (.cmp .eq (.var 4) (.lit 8)) (.or (.cmp .eq (.var 4) (.lit 12)) (.cmp .eq (.var 4) (.lit 16))))))) (.and (.or (.cmp .eq (.var 5) (.lit 0)) (.cmp .eq (.var 5) (.var 1))) (.or (.cmp .eq (.var 6) (.lit 0)) (.cmp .eq (.var 6) (.var 2)))))))))))))) (.and (.cmp .le (.app 63 (.cons (.var 2) (.cons (.var 4) (.cons (.var 11) (.cons (.var 3) .nil))))) (.lit 524288)) (.cmp .le (.app 63 (.cons (.var 2) (.cons (.var 4) (.cons (.var 11) (.cons (.var 3) .nil))))) (.op .mul (.lit 8) (.var 7)))))
def aJE:List B:=aI fM++aKH
def gB:B:=(.cmp .le (.lit 1) (.app 83 (.cons (.var 11) (.cons (.lit 0) (.cons (.lit 0) .nil)))))
def aH6:List B:=aI gB++aJE
def iP:B:=(.cmp .le (.app 83 (.cons (.var 11) (.cons (.lit 0) (.cons (.lit 0) .nil)))) (.lit 256))
def aKI:List B:=aI iP++aH6
def jR:B:=(.cmp .le (.lit 1) (.var 4))
def aKg:List B:=aI jR++aKI
def kZ:B:=(.cmp .le (.var 4) (.lit 16))
def aKV:List B:=aI kZ++aKg
def nJ:B:=(.cmp .eq (.var 6) (.var 2))
def aJH:List B:=aI nJ++aKV
def pN:B:=(.cmp .lt (.lit 0) (.var 6))
def aIz:List B:=aI pN++aJH
def sU:B:=(.and (.cmp .lt (.lit 0) (.var 1)) (.and (.cmp .lt (.lit 0) (.var 3)) (.and (.or (.cmp .eq (.var 5) (.lit 0)) (.cmp .lt (.lit 0) (.var 5))) (.and (.cmp .le (.lit 1) (.app 83 (.cons (.var 11) (.cons (.lit 0) (.cons (.lit 0) .nil))))) (.and (.cmp .le (.app 83 (.cons (.var 11) (.cons (.lit 0) (.cons (.lit 0) .nil)))) (.lit 256)) (.cmp .lt (.app 82 (.cons (.var 9) (.cons (.lit 0) (.cons (.lit 0) .nil)))) (.app 82 (.cons (.var 9) (.cons (.lit 0) (.cons (.lit 1) .nil))))))))))
def aIq:List B:=aI sU++aIz
theorem aIT:aQG Try.prog aIq = .ok (.tuple [(.agg []),(.bool (.lit true))]):=by kernel_rfl
end Go.Proofs.Ytdldallkeheciaa
namespace Go.Proofs.Ytdldallkeheciaa
open Go Go.RowKit Sx Wi Lk
set_option maxHeartbeats 4000000 in
set_option maxRecDepth 100000 in
theorem aJj (x0 x1 x2 x3 x4 x5 x6 x7 x8 l0 l1 l2 l3 l4 l5:Int):qD Try.prog G (bU GB) (iU (fF Try.prog 11) 1) aBj (dM ([x0,x1,x2,x3,x4,x5,x6,x7,x8]++[l0,l1,l2,l3,l4,l5])):=by
 intro hw hpre
 have hb:fQ qP ([x0,x1,x2,x3,x4,x5,x6,x7,x8,(G 60 [G 82 [l0,0,0],G 82 [l0,0,1],G 83 [l2,0,0],x5,G 82 [l3,0,0],G 82 [l3,0,1],x8]),(G 61 [G 82 [l0,0,0],G 82 [l0,0,1],G 83 [l2,0,0],x5,G 82 [l3,0,0],G 82 [l3,0,1],x8]),(G 62 [G 82 [l0,0,0],G 82 [l0,0,1],G 83 [l2,0,0],x5,G 82 [l3,0,0],G 82 [l3,0,1],x8])]++[0]):=hw
 unfold qP at hb
 simp only[List.cons_append,List.nil_append]at hb
 obtain⟨b0,b1,b2,b3,b4,b5,b6,b7,b8,b9,b10,b11,_⟩:=hb
 have e:kJ G (dM ([x0,x1,x2,x3,x4,x5,x6,x7,x8]++[l0,l1,l2,l3,l4,l5])) aBj.es=dA x0 x1 x2 x3 x4 x5 x6 x7 x8 (G 60 [G 82 [l0,0,0],G 82 [l0,0,1],G 83 [l2,0,0],x5,G 82 [l3,0,0],G 82 [l3,0,1],x8]) (G 61 [G 82 [l0,0,0],G 82 [l0,0,1],G 83 [l2,0,0],x5,G 82 [l3,0,0],G 82 [l3,0,1],x8]) (G 62 [G 82 [l0,0,0],G 82 [l0,0,1],G 83 [l2,0,0],x5,G 82 [l3,0,0],G 82 [l3,0,1],x8]) l0 l1 l2 l3 l4 l5 0:=by
  rw[mQ]
  unfold dA
  rw[show ((0:Nat):Int)=0 from rfl,←aCp]
  rfl
 rw[e]at hpre ⊢
 unfold aBj at hpre
 simp only[nn,dA,List.cons_append,List.nil_append,Bool.or_eq_true,aR,ne_eq]at hpre
 obtain⟨sa0,sb0,hc⟩:=hpre
 exact⟨x2.toNat+1,nT (ι:=Nat) (ρ:=dA x0 x1 x2 x3 x4 x5 x6 x7 x8 (G 60 [G 82 [l0,0,0],G 82 [l0,0,1],G 83 [l2,0,0],x5,G 82 [l3,0,0],G 82 [l3,0,1],x8]) (G 61 [G 82 [l0,0,0],G 82 [l0,0,1],G 83 [l2,0,0],x5,G 82 [l3,0,0],G 82 [l3,0,1],x8]) (G 62 [G 82 [l0,0,0],G 82 [l0,0,1],G 83 [l2,0,0],x5,G 82 [l3,0,0],G 82 [l3,0,1],x8]) l0 l1 l2 l3 l4 l5) (ρT:=(dM ([x0,x1,x2,x3,x4,x5,x6,x7,x8]++[l0,l1,l2,l3,l4,l5]))) (m:=fun j=>x2.toNat-j) (Good:=fun j=>(j:Int)≤x2) (run:=sJ Try.prog) (f:=11) (fun _=>rfl) fits rfl iJ (fun j hj=>aGX x0 x1 x2 x3 x4 x5 x6 x7 x8 (G 60 [G 82 [l0,0,0],G 82 [l0,0,1],G 83 [l2,0,0],x5,G 82 [l3,0,0],G 82 [l3,0,1],x8]) (G 61 [G 82 [l0,0,0],G 82 [l0,0,1],G 83 [l2,0,0],x5,G 82 [l3,0,0],G 82 [l3,0,1],x8]) (G 62 [G 82 [l0,0,0],G 82 [l0,0,1],G 83 [l2,0,0],x5,G 82 [l3,0,0],G 82 [l3,0,1],x8]) l0 l1 l2 l3 l4 l5 b0 b1 b2 b3 b4 b5 b6 b7 b8 b9 b10 b11 j hj) (fun _ _ X hX hG=>pU hX hG) (fun _ _ X hX hG=>dD) (fun j hj=>aIR x0 x1 x2 x3 x4 x5 x6 x7 x8 (G 60 [G 82 [l0,0,0],G 82 [l0,0,1],G 83 [l2,0,0],x5,G 82 [l3,0,0],G 82 [l3,0,1],x8]) (G 61 [G 82 [l0,0,0],G 82 [l0,0,1],G 83 [l2,0,0],x5,G 82 [l3,0,0],G 82 [l3,0,1],x8]) (G 62 [G 82 [l0,0,0],G 82 [l0,0,1],G 83 [l2,0,0],x5,G 82 [l3,0,0],G 82 [l3,0,1],x8]) l0 l1 l2 l3 l4 l5 b0 b1 b2 b3 b4 b5 b6 b7 b8 b9 b10 b11 ⟨sa0,sb0⟩ hc rfl rfl rfl j hj) (by decide) (fun x hx=>by rw[aDm]at hx;exact Option.mem_toList.1 hx) _ 0 (by show ((0:Nat):Int)≤x2;omega) (by show x2.toNat-0<x2.toNat+1;omega)⟩
set_option maxHeartbeats 8000000 in
set_option maxRecDepth 100000 in
theorem aJ5 (x0 x1 x2 x3 x4 x5 x6 x7 x8 l0 l1 l2 l3 l4 l5:Int) (b0:0≤x0∧x0≤255) (b1:1≤x1∧x1≤1) (b2:0≤x2∧x2≤8) (b3:1≤x3∧x3≤1) (b4:(-9223372036854775808)≤x4∧x4≤9223372036854775807) (b5:0≤x5∧x5≤8) (b6:0≤x6∧x6≤8) (b7:0≤x7∧x7≤70000) (b8:(-2147483648)≤x8∧x8≤2147483647) (hp:fZ.den G (dM ([x0,x1,x2,x3,x4,x5,x6,x7,x8]++[l0,l1,l2,l3,l4,l5]))=true):fX Try.prog G GB 11 aEm (dM ([x0,x1,x2,x3,x4,x5,x6,x7,x8]++[l0,l1,l2,l3,l4,l5])):=by
 refine dB (lp:=aF6) (run:=aCC Try.prog) (fun _=>rfl) fits (cM (xs:=[x0,x1,x2,x3,x4,x5,x6,x7,x8]) (ls:=[l0,l1,l2,l3,l4,l5]) (by exact⟨b0,b1,b2,b3,b4,b5,b6,b7,b8,trivial⟩)) iJ (fun X hX hG=>pU hX hG) (fun X hX hG fn c hf hc=>?_) rfl ?_
 ·refine uY ((congrArg bM (uP hf hc)).symm.trans aEB) ?_
  intro b hb
  simp only[List.mem_cons,List.mem_nil_iff,or_false]at hb
  rcases hb with rfl|rfl
  ·exact aAw (j:=8) (by kernel_rfl) (by decide) aCL
  ·refine yT hX hG (by kernel_rfl) ?_
   intro p hp'
   simp only[List.mem_cons,List.mem_nil_iff,or_false]at hp'
   subst hp'
   exact aJj x0 x1 x2 x3 x4 x5 x6 x7 x8 l0 l1 l2 l3 l4 l5
 ·skip
  refine aF fM (fun h0=>?_) (fun h0=>?_)
  rotate_left
  ·skip
   refine aU ?_
   unfold fM at h0;exfalso;unfold fZ at hp;rw[aT,aT,Bool.and_eq_true,Bool.and_eq_true]at hp;rw[aT,hp.1.1,hp.1.2]at h0;cases h0
  refine aF gB (fun h1=>?_) (fun h1=>?_)
  rotate_left
  ·skip
   refine aU ?_
   unfold fM at h0;unfold gB at h1;exfalso;unfold fZ at hp;rw[aT,aT,Bool.and_eq_true,Bool.and_eq_true]at hp;have tb:=dT (x0:=x0) (x1:=x1) (x2:=x2) (x3:=x3) (x4:=x4) (x5:=x5) (x6:=x6) (x7:=x7) (D:=l0) (R:=l1) (S:=l2) (ls:=[]) hp.1.1;obtain⟨t0,t1,tD,t2,tR,t3,tS,t4,t5,t6⟩:=tb;have u0:=tS 0 (by omega);have u0:1≤G 83 [l2,0,0]∧G 83 [l2,0,0]≤256:=u0;have v0:=tD 0 (by omega);have v0:G 82 [l0,0,0]<G 82 [l0,0,1]:=v0;have hq:=hp.2;clear hp tD tR tS h0;simp only[nn,List.cons_append,List.nil_append,Bool.or_eq_true,aR,ne_eq]at h1 hq;(try simp only[Bool.and_eq_false_iff,Bool.or_eq_false_iff,decide_eq_false_iff_not]at h1);generalize G 83 [l2,0,0]=c0 at *;generalize G 82 [l0,0,0]=c1 at *;generalize G 82 [l0,0,1]=c2 at *;omega
  refine aF iP (fun h2=>?_) (fun h2=>?_)
  rotate_left
  ·skip
   refine aU ?_
   unfold fM at h0;unfold gB at h1;unfold iP at h2;exfalso;unfold fZ at hp;rw[aT,aT,Bool.and_eq_true,Bool.and_eq_true]at hp;have tb:=dT (x0:=x0) (x1:=x1) (x2:=x2) (x3:=x3) (x4:=x4) (x5:=x5) (x6:=x6) (x7:=x7) (D:=l0) (R:=l1) (S:=l2) (ls:=[]) hp.1.1;obtain⟨t0,t1,tD,t2,tR,t3,tS,t4,t5,t6⟩:=tb;have u0:=tS 0 (by omega);have u0:1≤G 83 [l2,0,0]∧G 83 [l2,0,0]≤256:=u0;have v0:=tD 0 (by omega);have v0:G 82 [l0,0,0]<G 82 [l0,0,1]:=v0;have hq:=hp.2;clear hp tD tR tS h0 h1;simp only[nn,List.cons_append,List.nil_append,Bool.or_eq_true,aR,ne_eq]at h2 hq;(try simp only[Bool.and_eq_false_iff,Bool.or_eq_false_iff,decide_eq_false_iff_not]at h2);generalize G 83 [l2,0,0]=c0 at *;generalize G 82 [l0,0,0]=c1 at *;generalize G 82 [l0,0,1]=c2 at *;omega
  refine aF jR (fun h3=>?_) (fun h3=>?_)
  rotate_left
  ·skip
   refine aU ?_
   unfold fM at h0;unfold gB at h1;unfold iP at h2;unfold jR at h3;exfalso;unfold fZ at hp;rw[aT,aT,Bool.and_eq_true,Bool.and_eq_true]at hp;have tb:=dT (x0:=x0) (x1:=x1) (x2:=x2) (x3:=x3) (x4:=x4) (x5:=x5) (x6:=x6) (x7:=x7) (D:=l0) (R:=l1) (S:=l2) (ls:=[]) hp.1.1;obtain⟨t0,t1,tD,t2,tR,t3,tS,t4,t5,t6⟩:=tb;have u0:=tS 0 (by omega);have u0:1≤G 83 [l2,0,0]∧G 83 [l2,0,0]≤256:=u0;have v0:=tD 0 (by omega);have v0:G 82 [l0,0,0]<G 82 [l0,0,1]:=v0;have hq:=hp.2;clear hp tD tR tS h0 h1 h2;simp only[nn,List.cons_append,List.nil_append,Bool.or_eq_true,aR,ne_eq]at h3 hq;(try simp only[Bool.and_eq_false_iff,Bool.or_eq_false_iff,decide_eq_false_iff_not]at h3);generalize G 83 [l2,0,0]=c0 at *;generalize G 82 [l0,0,0]=c1 at *;generalize G 82 [l0,0,1]=c2 at *;omega
  refine aF kZ (fun h4=>?_) (fun h4=>?_)
  rotate_left
  ·skip
   refine aU ?_
   unfold fM at h0;unfold gB at h1;unfold iP at h2;unfold jR at h3;unfold kZ at h4;exfalso;unfold fZ at hp;rw[aT,aT,Bool.and_eq_true,Bool.and_eq_true]at hp;have tb:=dT (x0:=x0) (x1:=x1) (x2:=x2) (x3:=x3) (x4:=x4) (x5:=x5) (x6:=x6) (x7:=x7) (D:=l0) (R:=l1) (S:=l2) (ls:=[]) hp.1.1;obtain⟨t0,t1,tD,t2,tR,t3,tS,t4,t5,t6⟩:=tb;have u0:=tS 0 (by omega);have u0:1≤G 83 [l2,0,0]∧G 83 [l2,0,0]≤256:=u0;have v0:=tD 0 (by omega);have v0:G 82 [l0,0,0]<G 82 [l0,0,1]:=v0;have hq:=hp.2;clear hp tD tR tS h0 h1 h2 h3;simp only[nn,List.cons_append,List.nil_append,Bool.or_eq_true,aR,ne_eq]at h4 hq;(try simp only[Bool.and_eq_false_iff,Bool.or_eq_false_iff,decide_eq_false_iff_not]at h4);generalize G 83 [l2,0,0]=c0 at *;generalize G 82 [l0,0,0]=c1 at *;generalize G 82 [l0,0,1]=c2 at *;omega
  refine aF nJ (fun h5=>?_) (fun h5=>?_)
  rotate_left
  ·skip
   refine aU ?_
   unfold fM at h0;unfold gB at h1;unfold iP at h2;unfold jR at h3;unfold kZ at h4;unfold nJ at h5;exfalso;unfold fZ at hp;rw[aT,aT,Bool.and_eq_true,Bool.and_eq_true]at hp;have tb:=dT (x0:=x0) (x1:=x1) (x2:=x2) (x3:=x3) (x4:=x4) (x5:=x5) (x6:=x6) (x7:=x7) (D:=l0) (R:=l1) (S:=l2) (ls:=[]) hp.1.1;obtain⟨t0,t1,tD,t2,tR,t3,tS,t4,t5,t6⟩:=tb;have u0:=tS 0 (by omega);have u0:1≤G 83 [l2,0,0]∧G 83 [l2,0,0]≤256:=u0;have v0:=tD 0 (by omega);have v0:G 82 [l0,0,0]<G 82 [l0,0,1]:=v0;have hq:=hp.2;clear hp tD tR tS h0 h1 h2 h3 h4;simp only[nn,List.cons_append,List.nil_append,Bool.or_eq_true,aR,ne_eq]at h5 hq;(try simp only[Bool.and_eq_false_iff,Bool.or_eq_false_iff,decide_eq_false_iff_not]at h5);generalize G 83 [l2,0,0]=c0 at *;generalize G 82 [l0,0,0]=c1 at *;generalize G 82 [l0,0,1]=c2 at *;omega
  refine aF pN (fun h6=>?_) (fun h6=>?_)
  rotate_left
  ·skip
   refine aU ?_
   unfold fM at h0;unfold gB at h1;unfold iP at h2;unfold jR at h3;unfold kZ at h4;unfold nJ at h5;unfold pN at h6;exfalso;unfold fZ at hp;rw[aT,aT,Bool.and_eq_true,Bool.and_eq_true]at hp;have tb:=dT (x0:=x0) (x1:=x1) (x2:=x2) (x3:=x3) (x4:=x4) (x5:=x5) (x6:=x6) (x7:=x7) (D:=l0) (R:=l1) (S:=l2) (ls:=[]) hp.1.1;obtain⟨t0,t1,tD,t2,tR,t3,tS,t4,t5,t6⟩:=tb;have u0:=tS 0 (by omega);have u0:1≤G 83 [l2,0,0]∧G 83 [l2,0,0]≤256:=u0;have v0:=tD 0 (by omega);have v0:G 82 [l0,0,0]<G 82 [l0,0,1]:=v0;have hq:=hp.2;clear hp tD tR tS h0 h1 h2 h3 h4 h5;simp only[nn,List.cons_append,List.nil_append,Bool.or_eq_true,aR,ne_eq]at h6 hq;(try simp only[Bool.and_eq_false_iff,Bool.or_eq_false_iff,decide_eq_false_iff_not]at h6);generalize G 83 [l2,0,0]=c0 at *;generalize G 82 [l0,0,0]=c1 at *;generalize G 82 [l0,0,1]=c2 at *;omega
  refine aF sU (fun h7=>?_) (fun h7=>?_)
  ·skip
   refine aH aIT ?_
   unfold fM at h0;unfold gB at h1;unfold iP at h2;unfold jR at h3;unfold kZ at h4;unfold nJ at h5;unfold pN at h6;unfold sU at h7;exact⟨rfl,trivial⟩
  refine aU ?_
  unfold fM at h0;unfold gB at h1;unfold iP at h2;unfold jR at h3;unfold kZ at h4;unfold nJ at h5;unfold pN at h6;unfold sU at h7;exfalso;unfold fZ at hp;rw[aT,aT,Bool.and_eq_true,Bool.and_eq_true]at hp;have tb:=dT (x0:=x0) (x1:=x1) (x2:=x2) (x3:=x3) (x4:=x4) (x5:=x5) (x6:=x6) (x7:=x7) (D:=l0) (R:=l1) (S:=l2) (ls:=[]) hp.1.1;obtain⟨t0,t1,tD,t2,tR,t3,tS,t4,t5,t6⟩:=tb;have u0:=tS 0 (by omega);have u0:1≤G 83 [l2,0,0]∧G 83 [l2,0,0]≤256:=u0;have v0:=tD 0 (by omega);have v0:G 82 [l0,0,0]<G 82 [l0,0,1]:=v0;have hq:=hp.2;clear hp tD tR tS h0 h1 h2 h3 h4 h5 h6;simp only[nn,List.cons_append,List.nil_append,Bool.or_eq_true,aR,ne_eq]at h7 hq;(try simp only[Bool.and_eq_false_iff,Bool.or_eq_false_iff,decide_eq_false_iff_not]at h7);generalize G 83 [l2,0,0]=c0 at *;generalize G 82 [l0,0,0]=c1 at *;generalize G 82 [l0,0,1]=c2 at *;omega
end Go.Proofs.Ytdldallkeheciaa
set_option maxRecDepth 100000
namespace Go.Proofs.Ytdldallkeheciaa
open Go Go.RowKit Sx Wi Lk
def aEV (P:Program) (fs:List B):Res SV:=cO G GI [] fs (fun X=>aAr P X GB jY 20000 9 [])
def aKP:List B:=[]
theorem aIt:aEV Try.prog aKP = .ok (.bool (.cmp .eq (.lit 4) (.lit 4))):=by kernel_rfl
end Go.Proofs.Ytdldallkeheciaa
namespace Go.Proofs.Ytdldallkeheciaa
open Go Go.RowKit Sx Wi Lk
set_option maxRecDepth 100000 in
theorem aHs   (w:World) (hw:WOk GB w):fH Try.prog 9∧Calls Try.prog 9 #[] w (fun e w'=>e = .returned (.bool true)∧Below w.heap.size w w'):=by
 refine xU (sG (ρ:=dM []) (run:=fun fs=>aEV Try.prog fs) (fun _=>rfl) fits (lA trivial) iJ (fun X hX hG=>eL hX hG) rfl rfl pI ?_ w hw)
 refine aH aIt ?_
 exact⟨rfl,rfl⟩
def pW:nI:=fun _ args=>
 match args with
 |[] => .ok (.bool (.lit true))
 |_ => .fail 201
theorem aKb {X:Ctx} {ρ:Nat→Int} (hX:X.Ok ρ) (hG:X.G=G):iL Try.prog X ρ GB 9 pW:=by
 obtain⟨XG,XI,XV,XF⟩:=X
 simp only at hG
 subst hG
 intro args s h α w vals hv hw
 unfold pW at h
 split at h
 ·cases h
  exact cW hv rfl rfl (aHs w hw)
 ·cases h
def yS:Ctx→List SV→aM→Res (SV × aM):=eA GB [(0,255),(1,1),(0,8),(1,1),((-9223372036854775808),9223372036854775807),(0,8),(0,8),(0,70000),((-2147483648),2147483647)] 6 iH aEH
theorem aOp {X:Ctx} {ρ:Nat→Int} (hX:X.Ok ρ) (hG:X.G=G):eT Try.prog X ρ GB 11 yS:=by
 obtain⟨XG,XI,XV,XF⟩:=X
 simp only at hG
 subst hG
 refine cU hX ?_
 intro xs ls hw hl hp
 obtain⟨x0,y0,e0,b0,h0⟩:=aY hw
 obtain⟨x1,y1,e1,b1,h1⟩:=aY h0
 obtain⟨x2,y2,e2,b2,h2⟩:=aY h1
 obtain⟨x3,y3,e3,b3,h3⟩:=aY h2
 obtain⟨x4,y4,e4,b4,h4⟩:=aY h3
 obtain⟨x5,y5,e5,b5,h5⟩:=aY h4
 obtain⟨x6,y6,e6,b6,h6⟩:=aY h5
 obtain⟨x7,y7,e7,b7,h7⟩:=aY h6
 obtain⟨x8,y8,e8,b8,h8⟩:=aY h7
 have e9:=kG h8
 subst e9 e8 e7 e6 e5 e4 e3 e2 e1 e0
 obtain⟨l0,z0,q0,hl0⟩:=bL hl
 obtain⟨l1,z1,q1,hl1⟩:=bL hl0
 obtain⟨l2,z2,q2,hl2⟩:=bL hl1
 obtain⟨l3,z3,q3,hl3⟩:=bL hl2
 obtain⟨l4,z4,q4,hl4⟩:=bL hl3
 obtain⟨l5,z5,q5,hl5⟩:=bL hl4
 have q6:=List.length_eq_zero_iff.1 hl5
 subst q6 q5 q4 q3 q2 q1 q0
 exact aLf x0 x1 x2 x3 x4 x5 x6 x7 x8 l0 l1 l2 l3 l4 l5 b0 b1 b2 b3 b4 b5 b6 b7 b8 hp
def yW:Ctx→List SV→aM→Res (SV × aM):=eA GB [(0,255),(1,1),(0,8),(1,1),((-9223372036854775808),9223372036854775807),(0,8),(0,8),(0,70000),((-2147483648),2147483647)] 6 fZ aEm
theorem aPt {X:Ctx} {ρ:Nat→Int} (hX:X.Ok ρ) (hG:X.G=G):eT Try.prog X ρ GB 11 yW:=by
 obtain⟨XG,XI,XV,XF⟩:=X
 simp only at hG
 subst hG
 refine cU hX ?_
 intro xs ls hw hl hp
 obtain⟨x0,y0,e0,b0,h0⟩:=aY hw
 obtain⟨x1,y1,e1,b1,h1⟩:=aY h0
 obtain⟨x2,y2,e2,b2,h2⟩:=aY h1
 obtain⟨x3,y3,e3,b3,h3⟩:=aY h2
 obtain⟨x4,y4,e4,b4,h4⟩:=aY h3
 obtain⟨x5,y5,e5,b5,h5⟩:=aY h4
 obtain⟨x6,y6,e6,b6,h6⟩:=aY h5
 obtain⟨x7,y7,e7,b7,h7⟩:=aY h6
 obtain⟨x8,y8,e8,b8,h8⟩:=aY h7
 have e9:=kG h8
 subst e9 e8 e7 e6 e5 e4 e3 e2 e1 e0
 obtain⟨l0,z0,q0,hl0⟩:=bL hl
 obtain⟨l1,z1,q1,hl1⟩:=bL hl0
 obtain⟨l2,z2,q2,hl2⟩:=bL hl1
 obtain⟨l3,z3,q3,hl3⟩:=bL hl2
 obtain⟨l4,z4,q4,hl4⟩:=bL hl3
 obtain⟨l5,z5,q5,hl5⟩:=bL hl4
 have q6:=List.length_eq_zero_iff.1 hl5
 subst q6 q5 q4 q3 q2 q1 q0
 exact aJ5 x0 x1 x2 x3 x4 x5 x6 x7 x8 l0 l1 l2 l3 l4 l5 b0 b1 b2 b3 b4 b5 b6 b7 b8 hp
def aQ0:bA:=gF 11 (aA7 yS yW) aAF
theorem aKy {X:Ctx} {ρ:Nat→Int} (hX:X.Ok ρ) (hG:X.G=G):fL Try.prog X ρ GB aQ0:=eF (aAH (aOp hX hG) (aPt hX hG)) (pU hX hG)
def aQM:bA:=gF 19 aC5 aQ0
theorem aIw {X:Ctx} {ρ:Nat→Int} (hX:X.Ok ρ) (hG:X.G=G):fL Try.prog X ρ GB aQM:=eF (aTQ hX hG) (aKy hX hG)
def aJ2:bA:=kC 9 pW aQM
theorem aHI {X:Ctx} {ρ:Nat→Int} (hX:X.Ok ρ) (hG:X.G=G):fL Try.prog X ρ GB aJ2:=eZ (aKb hX hG) (aIw hX hG)
def aTV:FunS:=⟨[(.agg [(.int .u8 (.var 0)),(.own 0 (.var 1) none),(.own 1 (.var 2) none),(.own 2 (.var 3) none),(.int .i64 (.var 4)),(.own 3 (.var 5) none),(.own 4 (.var 6) none),(.own 5 (.var 7) none),(.own 6 (.var 8) none),(.own 7 (.var 9) none),(.int .i32 (.var 10)),(.own 8 (.var 11) none),(.own 9 (.var 12) none),(.text (.var 13))]),(.int .i32 (.var 14))],[some ([.vec [.int .i32,.int .i32] (.var 15) (.var 1) true],aG),some ([.vec [.int .i32,.int .i32] (.var 16) (.var 2) true],aG),some ([.vec [.int .i64] (.var 17) (.var 3) true],aG),some ([.vec [.int .i32,.int .i32] (.var 18) (.var 5) true],aG),some ([.vec [.int .i32,.int .i32] (.var 19) (.var 6) true],aG),some ([.vec [.int .u8] (.var 20) (.var 7) true],aG),some ([.vec [.int .i64] (.lit 0) (.lit 0) true],aG),some ([.vec [.int .i64] (.lit 0) (.lit 0) true],aG),some ([.vec [.int .i64] (.lit 0) (.lit 0) true],aG),some ([.vec [.int .i64] (.lit 0) (.lit 0) true],aG)],.lit true,.bool (.lit true),[some ([.vec [.int .i32,.int .i32] (.var 15) (.var 1) true],aG),some ([.vec [.int .i32,.int .i32] (.var 16) (.var 2) true],aG),some ([.vec [.int .i64] (.var 17) (.var 3) true],aG),some ([.vec [.int .i32,.int .i32] (.var 18) (.var 5) true],aG),some ([.vec [.int .i32,.int .i32] (.var 19) (.var 6) true],aG),some ([.vec [.int .u8] (.var 20) (.var 7) true],aG),some ([.vec [.int .i64] (.lit 0) (.lit 0) true],aG),some ([.vec [.int .i64] (.lit 0) (.lit 0) true],aG),some ([.vec [.int .i64] (.lit 0) (.lit 0) true],aG),some ([.vec [.int .i64] (.lit 0) (.lit 0) true],aG)],.bool (.lit true),[some ([.vec [.int .i32,.int .i32] (.var 15) (.var 1) true],aG),some ([.vec [.int .i32,.int .i32] (.var 16) (.var 2) true],aG),some ([.vec [.int .i64] (.var 17) (.var 3) true],aG),some ([.vec [.int .i32,.int .i32] (.var 18) (.var 5) true],aG),some ([.vec [.int .i32,.int .i32] (.var 19) (.var 6) true],aG),some ([.vec [.int .u8] (.var 20) (.var 7) true],aG),some ([.vec [.int .i64] (.lit 0) (.lit 0) true],aG),some ([.vec [.int .i64] (.lit 0) (.lit 0) true],aG),some ([.vec [.int .i64] (.lit 0) (.lit 0) true],aG),some ([.vec [.int .i64] (.lit 0) (.lit 0) true],aG)]⟩
def aI4 (P:Program) (fs:List B):Res SV:=cO G GI [(0,255),(0,9223372036854775807),(0,9223372036854775807),(0,17592186043904),((-9223372036854775808),9223372036854775807),(0,9223372036854775807),(0,9223372036854775807),(0,9223372036854775807),(0,9223372036854775807),(0,9223372036854775807),((-2147483648),2147483647),(0,9223372036854775807),(0,9223372036854775807),(0,9223372036854775807),((-2147483648),2147483647)] fs fun X=>gQ P X GB aJ2 eG 4000 6 aTV
end Go.Proofs.Ytdldallkeheciaa
