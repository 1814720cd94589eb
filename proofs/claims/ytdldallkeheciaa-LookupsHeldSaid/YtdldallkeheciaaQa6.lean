/- What is proved: what some functions leave: the states. No condition but the numbers' own bounds. -/
import Derived.Test.YtdldallkeheciaaQa1
import Derived.Test.YtdldallkeheciaaQg4
import Derived.Test.YtdldallkeheciaaProg
import Derived.Test.YtdldallkeheciaaQNn
import Derived.Test.YtdldallkeheciaaQa5
set_option linter.unusedSimpArgs false
set_option linter.unusedVariables false
namespace Go.Proofs.Ytdldallkeheciaa
open Go Go.RowKit Sx Wi Lk
def aWz:B:=(.lit true)
def aVb:FunS:=⟨[(.own 0 (.var 0) none),(.int .i64 (.var 1)),(.int .i64 (.var 2))],[some ([.vec [.int .u8] (.var 3) (.var 0) true],aF)],aWz,(.tuple [(.int .u32 (.app 67 (.cons (.var 3) (.cons (.var 0) (.cons (.var 1) (.cons (.var 2) .nil)))))),(.int .i64 (.app 69 (.cons (.var 0) (.cons (.var 1) (.cons (.var 2) .nil)))))]),[some ([.vec [.int .u8] (.var 3) (.var 0) true],aF)],(.tuple [(.int .u32 (.app 67 (.cons (.var 3) (.cons (.var 0) (.cons (.var 1) (.cons (.var 2) .nil)))))),(.int .i64 (.app 69 (.cons (.var 0) (.cons (.var 1) (.cons (.var 2) .nil)))))]),[some ([.vec [.int .u8] (.var 3) (.var 0) true],aF)]⟩
def aL7 (P:Program) (fs:List B):Res SV:=cA G GI [(0,70000),(0,1099511627776),(1,16)] fs fun X=>gJ P X GB gH dO 4000 20 aVb
def aWv:B:=(.lit true)
def aTF:FunS:=⟨[(.agg [.any,(.own 0 (.var 0) none),.any,(.own 1 (.var 1) none),.any,(.own 2 (.var 2) none),.any,.any,.any,.any,.any,.any,.any,.any]),(.int .i64 (.var 3)),(.int .i32 (.var 4))],[some ([.vec [.int .i32,.int .i32] (.var 5) (.var 0) true],aF),some ([.vec [.int .i64] (.var 6) (.var 1) true],aF),some ([.vec [.int .i32,.int .i32] (.var 7) (.var 2) true],aF)],aWv,(.agg [(.int .i64 (.app 60 (.cons (.app 82 (.cons (.var 5) (.cons (.var 3) (.cons (.lit 0) .nil)))) (.cons (.app 82 (.cons (.var 5) (.cons (.var 3) (.cons (.lit 1) .nil)))) (.cons (.app 83 (.cons (.var 6) (.cons (.var 3) (.cons (.lit 0) .nil)))) (.cons (.var 2) (.cons (.app 82 (.cons (.var 7) (.cons (.var 3) (.cons (.lit 0) .nil)))) (.cons (.app 82 (.cons (.var 7) (.cons (.var 3) (.cons (.lit 1) .nil)))) (.cons (.var 4) .nil))))))))),(.int .i64 (.app 61 (.cons (.app 82 (.cons (.var 5) (.cons (.var 3) (.cons (.lit 0) .nil)))) (.cons (.app 82 (.cons (.var 5) (.cons (.var 3) (.cons (.lit 1) .nil)))) (.cons (.app 83 (.cons (.var 6) (.cons (.var 3) (.cons (.lit 0) .nil)))) (.cons (.var 2) (.cons (.app 82 (.cons (.var 7) (.cons (.var 3) (.cons (.lit 0) .nil)))) (.cons (.app 82 (.cons (.var 7) (.cons (.var 3) (.cons (.lit 1) .nil)))) (.cons (.var 4) .nil))))))))),(.int .i64 (.app 62 (.cons (.app 82 (.cons (.var 5) (.cons (.var 3) (.cons (.lit 0) .nil)))) (.cons (.app 82 (.cons (.var 5) (.cons (.var 3) (.cons (.lit 1) .nil)))) (.cons (.app 83 (.cons (.var 6) (.cons (.var 3) (.cons (.lit 0) .nil)))) (.cons (.var 2) (.cons (.app 82 (.cons (.var 7) (.cons (.var 3) (.cons (.lit 0) .nil)))) (.cons (.app 82 (.cons (.var 7) (.cons (.var 3) (.cons (.lit 1) .nil)))) (.cons (.var 4) .nil)))))))))]),[some ([.vec [.int .i32,.int .i32] (.var 5) (.var 0) true],aF),some ([.vec [.int .i64] (.var 6) (.var 1) true],aF),some ([.vec [.int .i32,.int .i32] (.var 7) (.var 2) true],aF)],(.agg [(.int .i64 (.app 60 (.cons (.app 82 (.cons (.var 5) (.cons (.var 3) (.cons (.lit 0) .nil)))) (.cons (.app 82 (.cons (.var 5) (.cons (.var 3) (.cons (.lit 1) .nil)))) (.cons (.app 83 (.cons (.var 6) (.cons (.var 3) (.cons (.lit 0) .nil)))) (.cons (.var 2) (.cons (.app 82 (.cons (.var 7) (.cons (.var 3) (.cons (.lit 0) .nil)))) (.cons (.app 82 (.cons (.var 7) (.cons (.var 3) (.cons (.lit 1) .nil)))) (.cons (.var 4) .nil))))))))),(.int .i64 (.app 61 (.cons (.app 82 (.cons (.var 5) (.cons (.var 3) (.cons (.lit 0) .nil)))) (.cons (.app 82 (.cons (.var 5) (.cons (.var 3) (.cons (.lit 1) .nil)))) (.cons (.app 83 (.cons (.var 6) (.cons (.var 3) (.cons (.lit 0) .nil)))) (.cons (.var 2) (.cons (.app 82 (.cons (.var 7) (.cons (.var 3) (.cons (.lit 0) .nil)))) (.cons (.app 82 (.cons (.var 7) (.cons (.var 3) (.cons (.lit 1) .nil)))) (.cons (.var 4) .nil))))))))),(.int .i64 (.app 62 (.cons (.app 82 (.cons (.var 5) (.cons (.var 3) (.cons (.lit 0) .nil)))) (.cons (.app 82 (.cons (.var 5) (.cons (.var 3) (.cons (.lit 1) .nil)))) (.cons (.app 83 (.cons (.var 6) (.cons (.var 3) (.cons (.lit 0) .nil)))) (.cons (.var 2) (.cons (.app 82 (.cons (.var 7) (.cons (.var 3) (.cons (.lit 0) .nil)))) (.cons (.app 82 (.cons (.var 7) (.cons (.var 3) (.cons (.lit 1) .nil)))) (.cons (.var 4) .nil)))))))))]),[some ([.vec [.int .i32,.int .i32] (.var 5) (.var 0) true],aF),some ([.vec [.int .i64] (.var 6) (.var 1) true],aF),some ([.vec [.int .i32,.int .i32] (.var 7) (.var 2) true],aF)]⟩
def aKC (P:Program) (fs:List B):Res SV:=cA G GI [(0,8),(0,8),(0,8),(0,3),((-2147483648),2147483647)] fs fun X=>gJ P X GB gH dO 4000 26 aTF
def aWw:B:=(.lit true)
def aVn:FunS:=⟨[(.agg [.any,.any,.any,(.own 0 (.var 0) none),(.int .i64 (.var 1)),.any,.any,.any,.any,.any,.any,.any,.any,.any]),(.agg [(.int .i32 (.var 2)),(.int .i32 (.var 3))]),(.agg [(.int .i64 (.app 0 (.cons (.var 4) .nil))),(.int .u64 (.app 1 (.cons (.var 4) .nil)))])],[some ([.vec [.int .i64] (.var 5) (.var 0) true],aF)],aWw,(.int .i32 (.app 68 (.cons (.var 0) (.cons (.var 1) (.cons (.var 2) (.cons (.var 3) (.cons (.var 4) .nil))))))),[some ([.vec [.int .i64] (.var 5) (.var 0) true],aF)],(.int .i32 (.app 68 (.cons (.var 0) (.cons (.var 1) (.cons (.var 2) (.cons (.var 3) (.cons (.var 4) .nil))))))),[some ([.vec [.int .i64] (.var 5) (.var 0) true],aF)]⟩
def aJe (P:Program) (fs:List B):Res SV:=cA G GI [(1,4),(1,16),((-2147483648),2147483647),((-2147483648),2147483647),(0,19342813113834066795298816)] fs fun X=>gJ P X GB gH dO 4000 32 aVn
end Go.Proofs.Ytdldallkeheciaa
set_option maxRecDepth 100000
namespace Go.Proofs.Ytdldallkeheciaa
open Go Go.RowKit Sx Wi Lk
def aGB (P:Program) (fs:List B):Res SV:=aL7 P fs
def aLN:List B:=[]
def iS:B:=(.cmp .le (.var 1) (.op .sub (.op .mul (.lit 8) (.var 0)) (.var 2)))
def aS4:List B:=aJ iS++aLN
def kF:B:=(.cmp .le (.op .quo (.var 1) (.lit 8)) (.op .quo (.op .sub (.op .add (.op .add (.var 1) (.var 2)) (.lit 8)) (.lit 1)) (.lit 8)))
def aTc:List B:=aJ kF++aS4
def lF:B:=(.cmp .le (.op .quo (.op .sub (.op .add (.op .add (.var 1) (.var 2)) (.lit 8)) (.lit 1)) (.lit 8)) (.var 0))
def aUr:List B:=aJ lF++aTc
def mG:B:=(.cmp .lt (.lit 0) (.op .sub (.op .quo (.op .sub (.op .add (.op .add (.var 1) (.var 2)) (.lit 8)) (.lit 1)) (.lit 8)) (.op .quo (.var 1) (.lit 8))))
def aU5:List B:=aJ mG++aUr
def oF:B:=(.cmp .lt (.op .quo (.var 1) (.lit 8)) (.var 0))
def aMy:List B:=aJ oF++aU5
def oQ:B:=(.cmp .lt (.lit 1) (.op .sub (.op .quo (.op .sub (.op .add (.op .add (.var 1) (.var 2)) (.lit 8)) (.lit 1)) (.lit 8)) (.op .quo (.var 1) (.lit 8))))
def aS9:List B:=aJ oQ++aMy
def rO:B:=(.cmp .lt (.op .add (.op .quo (.var 1) (.lit 8)) (.lit 1)) (.var 0))
def aJQ:List B:=aJ rO++aS9
def rJ:B:=(.cmp .lt (.lit 2) (.op .sub (.op .quo (.op .sub (.op .add (.op .add (.var 1) (.var 2)) (.lit 8)) (.lit 1)) (.lit 8)) (.op .quo (.var 1) (.lit 8))))
def aTf:List B:=aJ rJ++aJQ
def yQ:B:=(.cmp .lt (.op .add (.op .quo (.var 1) (.lit 8)) (.lit 2)) (.var 0))
def aTk:List B:=aJ yQ++aTf
def aBI:B:=(.cmp .le (.op .sub (.op .quo (.op .sub (.op .add (.op .add (.var 1) (.var 2)) (.lit 8)) (.lit 1)) (.lit 8)) (.op .quo (.var 1) (.lit 8))) (.lit 3))
def aRR:List B:=aJ aBI++aTk
def aMw:SV:=(.tuple [(.agg [(.int .i64 (.bit .and .u64 (.op .fdiv (.bit .or .u64 (.wrap .u64 (.op .mul (.bit .or .u64 (.wrap .u64 (.op .mul (.bit .or .u64 (.lit 0) (.app 84 (.cons (.var 3) (.cons (.op .quo (.var 1) (.lit 8)) (.cons (.lit 0) .nil))))) (.lit 256))) (.app 84 (.cons (.var 3) (.cons (.op .add (.op .quo (.var 1) (.lit 8)) (.lit 1)) (.cons (.lit 0) .nil))))) (.lit 256))) (.app 84 (.cons (.var 3) (.cons (.op .add (.op .quo (.var 1) (.lit 8)) (.lit 2)) (.cons (.lit 0) .nil))))) (.op .shl (.lit 1) (.bit .and .i64 (.op .sub (.lit 0) (.op .add (.var 1) (.var 2))) (.lit 7)))) (.op .sub (.op .shl (.lit 1) (.var 2)) (.lit 1)))),(.int .i64 (.app 67 (.cons (.var 3) (.cons (.var 0) (.cons (.var 1) (.cons (.var 2) .nil)))))),(.int .i64 (.lit 0)),(.int .i64 (.app 69 (.cons (.var 0) (.cons (.var 1) (.cons (.var 2) .nil)))))]),(.bool (.lit true))])
def aNk:List B:=aJ (B.neg rJ)++aJQ
def aJy:SV:=(.tuple [(.agg [(.int .i64 (.bit .and .u64 (.op .fdiv (.bit .or .u64 (.wrap .u64 (.op .mul (.bit .or .u64 (.lit 0) (.app 84 (.cons (.var 3) (.cons (.op .quo (.var 1) (.lit 8)) (.cons (.lit 0) .nil))))) (.lit 256))) (.app 84 (.cons (.var 3) (.cons (.op .add (.op .quo (.var 1) (.lit 8)) (.lit 1)) (.cons (.lit 0) .nil))))) (.op .shl (.lit 1) (.bit .and .i64 (.op .sub (.lit 0) (.op .add (.var 1) (.var 2))) (.lit 7)))) (.op .sub (.op .shl (.lit 1) (.var 2)) (.lit 1)))),(.int .i64 (.app 67 (.cons (.var 3) (.cons (.var 0) (.cons (.var 1) (.cons (.var 2) .nil)))))),(.int .i64 (.lit 0)),(.int .i64 (.app 69 (.cons (.var 0) (.cons (.var 1) (.cons (.var 2) .nil)))))]),(.bool (.lit true))])
def aPO:List B:=aJ (B.neg oQ)++aMy
def aI6:SV:=(.tuple [(.agg [(.int .i64 (.bit .and .u64 (.op .fdiv (.bit .or .u64 (.lit 0) (.app 84 (.cons (.var 3) (.cons (.op .quo (.var 1) (.lit 8)) (.cons (.lit 0) .nil))))) (.op .shl (.lit 1) (.bit .and .i64 (.op .sub (.lit 0) (.op .add (.var 1) (.var 2))) (.lit 7)))) (.op .sub (.op .shl (.lit 1) (.var 2)) (.lit 1)))),(.int .i64 (.app 67 (.cons (.var 3) (.cons (.var 0) (.cons (.var 1) (.cons (.var 2) .nil)))))),(.int .i64 (.lit 0)),(.int .i64 (.app 69 (.cons (.var 0) (.cons (.var 1) (.cons (.var 2) .nil)))))]),(.bool (.lit true))])
def aND:List B:=aJ (B.neg iS)++aLN
theorem aO3:aGB Try.prog aRR = .ok aMw:=by kernel_rfl
theorem aNm:aGB Try.prog aNk = .ok aJy:=by kernel_rfl
theorem aRi:aGB Try.prog aPO = .ok aI6:=by kernel_rfl
theorem aRS:aGB Try.prog aND = .ok (.tuple [(.agg [(.int .i64 (.lit 0)),(.int .i64 (.app 67 (.cons (.var 3) (.cons (.var 0) (.cons (.var 1) (.cons (.var 2) .nil)))))),(.int .i64 (.lit 5)),(.int .i64 (.app 69 (.cons (.var 0) (.cons (.var 1) (.cons (.var 2) .nil)))))]),(.bool (.lit true))]):=by kernel_rfl
end Go.Proofs.Ytdldallkeheciaa
namespace Go.Proofs.Ytdldallkeheciaa
open Go Go.RowKit Sx Wi Lk
set_option maxHeartbeats 8000000 in
set_option maxRecDepth 100000 in
theorem aUG (x0 x1 x2 l0:Int) (b0:0≤x0∧x0≤70000) (b1:0≤x1∧x1≤1099511627776) (b2:1≤x2∧x2≤16):fX Try.prog G GB 20 aVb (cQ ([x0,x1,x2]++[l0])):=by
 refine cY (lp:=dO) (run:=aL7 Try.prog) (fun _=>rfl) fits (bP (xs:=[x0,x1,x2]) (ls:=[l0]) (by exact⟨b0,b1,b2,trivial⟩)) eU (fun X hX hG=>dA hX hG) (fun X hX hG fn c hf hc=>cF) rfl ?_
 refine aG iS (fun h0=>?_) (fun h0=>?_)
 rotate_left
 ·skip
  refine aH aRS ?_
  unfold iS at h0;simp only[nn,List.cons_append,List.nil_append,Bool.or_eq_true,aP,ne_eq]at h0;simp only[bK];refine⟨rfl,?_⟩;simp only[aI];simp only[nn,List.cons_append,List.nil_append,Bool.or_eq_true,aP,ne_eq];obtain⟨e1,e2⟩:=aVg (B:=l0) (nB:=x0) (a:=x1) (n:=x2) (by omega);exact⟨e1,e2,trivial⟩
 refine aG kF (fun h1=>?_) (fun h1=>?_)
 rotate_left
 ·skip
  refine aQ ?_
  unfold iS at h0;unfold kF at h1;simp only[nn,List.cons_append,List.nil_append,Bool.or_eq_true,aP,ne_eq]at h0 h1;have q1:=Int.tdiv_eq_ediv_of_nonneg (b:=8) b1.1;have q2:=Int.tdiv_eq_ediv_of_nonneg (b:=8) (show 0≤x1+x2+8-1 by omega);simp only[q1,q2]at *;exfalso;omega
 refine aG lF (fun h2=>?_) (fun h2=>?_)
 rotate_left
 ·skip
  refine aQ ?_
  unfold iS at h0;unfold kF at h1;unfold lF at h2;simp only[nn,List.cons_append,List.nil_append,Bool.or_eq_true,aP,ne_eq]at h0 h1 h2;have q1:=Int.tdiv_eq_ediv_of_nonneg (b:=8) b1.1;have q2:=Int.tdiv_eq_ediv_of_nonneg (b:=8) (show 0≤x1+x2+8-1 by omega);simp only[q1,q2]at *;exfalso;omega
 refine aG mG (fun h3=>?_) (fun h3=>?_)
 rotate_left
 ·skip
  refine aQ ?_
  unfold iS at h0;unfold kF at h1;unfold lF at h2;unfold mG at h3;simp only[nn,List.cons_append,List.nil_append,Bool.or_eq_true,aP,ne_eq]at h0 h1 h2 h3;have q1:=Int.tdiv_eq_ediv_of_nonneg (b:=8) b1.1;have q2:=Int.tdiv_eq_ediv_of_nonneg (b:=8) (show 0≤x1+x2+8-1 by omega);simp only[q1,q2]at *;exfalso;omega
 refine aG oF (fun h4=>?_) (fun h4=>?_)
 rotate_left
 ·skip
  refine aQ ?_
  unfold iS at h0;unfold kF at h1;unfold lF at h2;unfold mG at h3;unfold oF at h4;simp only[nn,List.cons_append,List.nil_append,Bool.or_eq_true,aP,ne_eq]at h0 h1 h2 h3 h4;have q1:=Int.tdiv_eq_ediv_of_nonneg (b:=8) b1.1;have q2:=Int.tdiv_eq_ediv_of_nonneg (b:=8) (show 0≤x1+x2+8-1 by omega);simp only[q1,q2]at *;exfalso;omega
 refine aG oQ (fun h5=>?_) (fun h5=>?_)
 rotate_left
 ·skip
  refine aH aRi ?_
  unfold iS at h0;unfold kF at h1;unfold lF at h2;unfold mG at h3;unfold oF at h4;unfold oQ at h5;unfold aI6;simp only[nn,List.cons_append,List.nil_append,Bool.or_eq_true,aP,ne_eq]at h0 h1 h2 h3 h4 h5;simp only[bK];refine⟨rfl,?_⟩;simp only[aI];simp only[nn,List.cons_append,List.nil_append,Bool.or_eq_true,aP,ne_eq];have e1:=aWa (B:=l0) (nB:=x0) (a:=x1) (n:=x2) b1.1 b2 (by omega) (by omega);have e2:=aCo (nB:=x0) (a:=x1) (n:=x2) (by omega);refine⟨?_,?_,trivial⟩<;>first|with_reducible exact e2|with_reducible exact e1
 refine aG rO (fun h6=>?_) (fun h6=>?_)
 rotate_left
 ·skip
  refine aQ ?_
  unfold iS at h0;unfold kF at h1;unfold lF at h2;unfold mG at h3;unfold oF at h4;unfold oQ at h5;unfold rO at h6;simp only[nn,List.cons_append,List.nil_append,Bool.or_eq_true,aP,ne_eq]at h0 h1 h2 h3 h4 h5 h6;have q1:=Int.tdiv_eq_ediv_of_nonneg (b:=8) b1.1;have q2:=Int.tdiv_eq_ediv_of_nonneg (b:=8) (show 0≤x1+x2+8-1 by omega);simp only[q1,q2]at *;exfalso;omega
 refine aG rJ (fun h7=>?_) (fun h7=>?_)
 rotate_left
 ·skip
  refine aH aNm ?_
  unfold iS at h0;unfold kF at h1;unfold lF at h2;unfold mG at h3;unfold oF at h4;unfold oQ at h5;unfold rO at h6;unfold rJ at h7;unfold aJy;simp only[nn,List.cons_append,List.nil_append,Bool.or_eq_true,aP,ne_eq]at h0 h1 h2 h3 h4 h5 h6 h7;simp only[bK];refine⟨rfl,?_⟩;simp only[aI];simp only[nn,List.cons_append,List.nil_append,Bool.or_eq_true,aP,ne_eq];have e1:=aVQ (B:=l0) (nB:=x0) (a:=x1) (n:=x2) b1.1 b2 (by omega) (by omega);have e2:=aCo (nB:=x0) (a:=x1) (n:=x2) (by omega);refine⟨?_,?_,trivial⟩<;>first|with_reducible exact e2|with_reducible exact e1
 refine aG yQ (fun h8=>?_) (fun h8=>?_)
 rotate_left
 ·skip
  refine aQ ?_
  unfold iS at h0;unfold kF at h1;unfold lF at h2;unfold mG at h3;unfold oF at h4;unfold oQ at h5;unfold rO at h6;unfold rJ at h7;unfold yQ at h8;simp only[nn,List.cons_append,List.nil_append,Bool.or_eq_true,aP,ne_eq]at h0 h1 h2 h3 h4 h5 h6 h7 h8;have q1:=Int.tdiv_eq_ediv_of_nonneg (b:=8) b1.1;have q2:=Int.tdiv_eq_ediv_of_nonneg (b:=8) (show 0≤x1+x2+8-1 by omega);simp only[q1,q2]at *;exfalso;omega
 refine aG aBI (fun h9=>?_) (fun h9=>?_)
 ·skip
  refine aH aO3 ?_
  unfold iS at h0;unfold kF at h1;unfold lF at h2;unfold mG at h3;unfold oF at h4;unfold oQ at h5;unfold rO at h6;unfold rJ at h7;unfold yQ at h8;unfold aBI at h9;unfold aMw;simp only[nn,List.cons_append,List.nil_append,Bool.or_eq_true,aP,ne_eq]at h0 h1 h2 h3 h4 h5 h6 h7 h8 h9;simp only[bK];refine⟨rfl,?_⟩;simp only[aI];simp only[nn,List.cons_append,List.nil_append,Bool.or_eq_true,aP,ne_eq];have e1:=aWf (B:=l0) (nB:=x0) (a:=x1) (n:=x2) b1.1 b2 (by omega) (by omega);have e2:=aCo (nB:=x0) (a:=x1) (n:=x2) (by omega);refine⟨?_,?_,trivial⟩<;>first|with_reducible exact e2|with_reducible exact e1
 refine aQ ?_
 unfold iS at h0;unfold kF at h1;unfold lF at h2;unfold mG at h3;unfold oF at h4;unfold oQ at h5;unfold rO at h6;unfold rJ at h7;unfold yQ at h8;unfold aBI at h9;simp only[nn,List.cons_append,List.nil_append,Bool.or_eq_true,aP,ne_eq]at h0 h1 h2 h3 h4 h5 h6 h7 h8 h9;have q1:=Int.tdiv_eq_ediv_of_nonneg (b:=8) b1.1;have q2:=Int.tdiv_eq_ediv_of_nonneg (b:=8) (show 0≤x1+x2+8-1 by omega);simp only[q1,q2]at *;exfalso;omega
def xH:Ctx→List SV→aM→Res (SV × aM):=dW GB [(0,70000),(0,1099511627776),(1,16)] 1 (.lit true) aVb
theorem aSP {X:Ctx} {ρ:Nat→Int} (hX:X.Ok ρ) (hG:X.G=G):eV Try.prog X ρ GB 20 xH:=by
 obtain⟨XG,XI,XV,XF⟩:=X
 simp only at hG
 subst hG
 refine cU hX ?_
 intro xs ls hw hl hp
 obtain⟨x0,y0,e0,b0,h0⟩:=aY hw
 obtain⟨x1,y1,e1,b1,h1⟩:=aY h0
 obtain⟨x2,y2,e2,b2,h2⟩:=aY h1
 have e3:=jJ h2
 subst e3 e2 e1 e0
 obtain⟨l0,z0,q0,hl0⟩:=bJ hl
 have q1:=List.length_eq_zero_iff.1 hl0
 subst q1 q0
 exact aUG x0 x1 x2 l0 b0 b1 b2
theorem aSj {n d k:Int} (hd:1≤d) (h:n<(k+1)*d):fq n d≤k:=by
 unfold fq;rw[if_pos hd,Int.fdiv_eq_ediv_of_nonneg _ (by omega)]
 have:=(Int.ediv_lt_iff_lt_mul (show 0<d by omega)).2 h
 omega
theorem aSC {n d k:Int} (hd:1≤d) (h:k*d≤n):k≤fq n d:=by
 unfold fq;rw[if_pos hd,Int.fdiv_eq_ediv_of_nonneg _ (by omega)]
 exact(Int.le_ediv_iff_mul_le (show 0<d by omega)).2 h
theorem aLp {c:Int}:∀ {m:Nat} {n:Int},n≤c*65536 ^ m→fqN m n≤c
 |0,n,h=>by simpa [fqN]using h
 |m+1,n,h=>by
  show fqN m (fq n 65536)≤c
  refine aLp (aSj (by decide) ?_)
  rw[Int.pow_succ,←Int.mul_assoc]at h
  omega
theorem aJE {c:Int}:∀ {m:Nat} {n:Int},c*65536 ^ m≤n→c≤fqN m n
 |0,n,h=>by simpa [fqN]using h
 |m+1,n,h=>by
  show c≤fqN m (fq n 65536)
  refine aJE (aSC (by decide) ?_)
  rw[Int.pow_succ,←Int.mul_assoc]at h
  exact h
theorem aTY {g d s M:Int} {m:Nat} (hg:1≤g) (hd : -4294967296≤d∧d≤4294967296) (hM:M=65536 ^ m) (h0:0≤s) (h1:s≤g*M) : -8589934593≤fq (fqN m (s*(2*d)+g*M)) (2*g)∧fq (fqN m (s*(2*d)+g*M)) (2*g)≤8589934593:=by
 have e1:s*(2*d)≤g*M*8589934592:=by
  have a:=Int.mul_le_mul_of_nonneg_left (show 2*d≤8589934592 by omega) h0
  have b:=Int.mul_le_mul_of_nonneg_right h1 (show (0:Int)≤8589934592 by decide)
  omega
 have e2:g*M*(-8589934592)≤s*(2*d):=by
  have a:=Int.mul_le_mul_of_nonneg_left (show -8589934592≤2*d by omega) h0
  have b:=Int.mul_le_mul_of_nonneg_right h1 (show (0:Int)≤8589934592 by decide)
  omega
 subst hM
 have p:(0:Int)<65536 ^ m:=Int.pow_pos (by decide)
 have u:fqN m (s*(2*d)+g*65536 ^ m)≤g*8589934593:=by
  refine aLp ?_
  have:g*8589934593*65536 ^ m=g*65536 ^ m*8589934593:=by grind
  omega
 have l:g*(-8589934593)≤fqN m (s*(2*d)+g*65536 ^ m):=by
  refine aJE ?_
  have:g*(-8589934593)*65536 ^ m=g*65536 ^ m*(-8589934593):=by grind
  have q:0<g*65536 ^ m:=Int.mul_pos (by omega) p
  omega
 refine⟨aSC (by omega) (by omega),aSj (by omega) (by omega)⟩
section
variable {b lo hi s P:Int}
theorem aG9 (hP:P=1*2 ^ b.toNat):max (-2147483648) (min 2147483647 (lo+fq (fq (s*(2*(hi-lo))+(P-1)*65536) 65536) (2*(P-1))))=aE5 1 b lo hi s:=by
 subst hP
 rw[jF]
 show _=Fx.sat (lo+fq (fq (s*(2*(hi-lo))+(2 ^ b.toNat-1)*65536) 65536) (2*(2 ^ b.toNat-1)))
 rw[Int.one_mul]
theorem aGb (hP:P=1*2 ^ b.toNat):max (-2147483648) (min 2147483647 (lo+fq (fq (fq (s*(2*(hi-lo))+(P-1)*65536*65536) 65536) 65536) (2*(P-1))))=aE5 2 b lo hi s:=by
 subst hP
 rw[jF]
 show _=Fx.sat (lo+fq (fq (fq (s*(2*(hi-lo))+(2 ^ b.toNat-1)*4294967296) 65536) 65536) (2*(2 ^ b.toNat-1)))
 rw[Int.one_mul,Int.mul_assoc _ (65536:Int)];rfl
theorem aFY (hP:P=1*2 ^ b.toNat):max (-2147483648) (min 2147483647 (lo+fq (fq (fq (fq (s*(2*(hi-lo))+(P-1)*65536*65536*65536) 65536) 65536) 65536) (2*(P-1))))=aE5 3 b lo hi s:=by
 subst hP
 rw[jF]
 show _=Fx.sat (lo+fq (fq (fq (fq (s*(2*(hi-lo))+(2 ^ b.toNat-1)*281474976710656) 65536) 65536) 65536) (2*(2 ^ b.toNat-1)))
 rw[Int.one_mul,show (2 ^ b.toNat-1:Int)*65536*65536*65536=(2 ^ b.toNat-1)*281474976710656 by omega]
theorem aGY (hP:P=1*2 ^ b.toNat):max (-2147483648) (min 2147483647 (lo+fq (fq (fq (fq (fq (s*(2*(hi-lo))+(P-1)*65536*65536*65536*65536) 65536) 65536) 65536) 65536) (2*(P-1))))=aE5 4 b lo hi s:=by
 subst hP
 rw[jF]
 show _=Fx.sat (lo+fq (fq (fq (fq (fq (s*(2*(hi-lo))+(2 ^ b.toNat-1)*18446744073709551616) 65536) 65536) 65536) 65536) (2*(2 ^ b.toNat-1)))
 rw[Int.one_mul,show (2 ^ b.toNat-1:Int)*65536*65536*65536*65536=(2 ^ b.toNat-1)*18446744073709551616 by omega]
end
theorem gL {b:Int} (h:1≤b∧b≤16):(2:Int)≤1*2 ^ b.toNat∧(1:Int)*2 ^ b.toNat≤65536:=by
 obtain⟨n,rfl⟩:=Int.eq_ofNat_of_zero_le (show 0≤b by omega)
 have h1:2 ^ 1≤2 ^ n:=Nat.pow_le_pow_right (by decide) (by omega)
 have h2:2 ^ n≤2 ^ 16:=Nat.pow_le_pow_right (by decide) (by omega)
 have c:((2 ^ n:Nat):Int)=2 ^ n:=by rw[Int.natCast_pow];rfl
 rw[Int.toNat_natCast,Int.one_mul,←c]
 omega
theorem bM {P lo hi s:Int} (m:Nat) (M:Int) (hM:M=65536 ^ m) (hP:2≤P) (hlo : -2147483648≤lo∧lo≤2147483647) (hhi : -2147483648≤hi∧hi≤2147483647) (h0:0≤s) (h1:s≤(P-1)*(1*M)):
  -8589934593≤fq (fqN m (s*(2*(hi-lo))+(P-1)*M)) (2*(P-1))∧fq (fqN m (s*(2*(hi-lo))+(P-1)*M)) (2*(P-1))≤8589934593:=
 aTY (by omega) (by omega) hM h0 (by rwa [Int.one_mul]at h1)
theorem aHh {lo hi n nE t0 t1 x T0 T1:Int} (hn:1≤n∧n≤256) (h0:T0=if 0<nE then t0 else 0) (h1:T1=if 0<nE then t1 else (n-1)*65536):
  max 0 (min (Int.tdiv (min (max (G 4 [min (max x lo) hi,lo,hi,T0,T1]) 0) ((n-1)*65536)) 65536) (n-2))=G 60 [lo,hi,n,nE,t0,t1,x]∧
  min (max 0 (min (Int.tdiv (min (max (G 4 [min (max x lo) hi,lo,hi,T0,T1]) 0) ((n-1)*65536)) 65536) (n-2))+1) (n-1)=G 61 [lo,hi,n,nE,t0,t1,x]∧
  min (max (G 4 [min (max x lo) hi,lo,hi,T0,T1]) 0) ((n-1)*65536)-max 0 (min (Int.tdiv (min (max (G 4 [min (max x lo) hi,lo,hi,T0,T1]) 0) ((n-1)*65536)) 65536) (n-2))*65536=G 62 [lo,hi,n,nE,t0,t1,x]:=by
 subst h0 h1
 have e:stY lo hi n nE t0 t1 x=min (max (G 4 [min (max x lo) hi,lo,hi,(if 0<nE then t0 else 0),(if 0<nE then t1 else (n-1)*65536)]) 0) ((n-1)*65536):=rfl
 rw[←e]
 show _=iJ 0 255 (stS lo hi n nE t0 t1 x)∧_=iJ 0 255 (min (stS lo hi n nE t0 t1 x+1) (n-1))∧_=iJ 0 65536 (stY lo hi n nE t0 t1 x-stS lo hi n nE t0 t1 x*65536)
 have y0:0≤stY lo hi n nE t0 t1 x∧stY lo hi n nE t0 t1 x≤(n-1)*65536:=by rw[e];omega
 unfold stS iJ
 generalize stY lo hi n nE t0 t1 x=y at *
 rw[Int.tdiv_eq_ediv_of_nonneg y0.1]
 refine⟨by omega,by omega,by omega⟩
end Go.Proofs.Ytdldallkeheciaa
set_option maxRecDepth 100000
namespace Go.Proofs.Ytdldallkeheciaa
open Go Go.RowKit Sx Wi Lk
def aSN (P:Program) (fs:List B):Res SV:=aKC P fs
def aUN:List B:=[]
def kN:B:=(.cmp .lt (.var 3) (.var 0))
def aTw:List B:=aJ kN++aUN
def kX:B:=(.cmp .lt (.var 3) (.var 1))
def aTu:List B:=aJ kX++aTw
def mI:B:=(.cmp .le (.lit 1) (.app 83 (.cons (.var 6) (.cons (.var 3) (.cons (.lit 0) .nil)))))
def aTR:List B:=aJ mI++aTu
def oE:B:=(.cmp .le (.app 83 (.cons (.var 6) (.cons (.var 3) (.cons (.lit 0) .nil)))) (.lit 256))
def aTI:List B:=aJ oE++aTR
def pV:B:=(.cmp .lt (.app 82 (.cons (.var 5) (.cons (.var 3) (.cons (.lit 0) .nil)))) (.app 82 (.cons (.var 5) (.cons (.var 3) (.cons (.lit 1) .nil)))))
def aLj:List B:=aJ pV++aTI
def pF:B:=(.cmp .lt (.lit 0) (.var 2))
def aTV:List B:=aJ pF++aLj
def aAe:B:=(.cmp .lt (.var 3) (.var 2))
def aS7:List B:=aJ aAe++aTV
def qB:B:=(.cmp .eq (.op .sub (.app 82 (.cons (.var 5) (.cons (.var 3) (.cons (.lit 1) .nil)))) (.app 82 (.cons (.var 5) (.cons (.var 3) (.cons (.lit 0) .nil))))) (.lit 0))
def aVh:List B:=aJ (B.neg qB)++aS7
def aKs:SV:=(.tuple [(.agg [(.int .i64 (.op .max (.lit 0) (.op .min (.op .quo (.op .min (.op .max (.app 4 (.cons (.op .min (.op .max (.var 4) (.app 82 (.cons (.var 5) (.cons (.var 3) (.cons (.lit 0) .nil))))) (.app 82 (.cons (.var 5) (.cons (.var 3) (.cons (.lit 1) .nil))))) (.cons (.app 82 (.cons (.var 5) (.cons (.var 3) (.cons (.lit 0) .nil)))) (.cons (.app 82 (.cons (.var 5) (.cons (.var 3) (.cons (.lit 1) .nil)))) (.cons (.app 82 (.cons (.var 7) (.cons (.var 3) (.cons (.lit 0) .nil)))) (.cons (.app 82 (.cons (.var 7) (.cons (.var 3) (.cons (.lit 1) .nil)))) .nil)))))) (.lit 0)) (.op .mul (.op .sub (.app 83 (.cons (.var 6) (.cons (.var 3) (.cons (.lit 0) .nil)))) (.lit 1)) (.lit 65536))) (.lit 65536)) (.op .sub (.app 83 (.cons (.var 6) (.cons (.var 3) (.cons (.lit 0) .nil)))) (.lit 2))))),(.int .i64 (.app 60 (.cons (.app 82 (.cons (.var 5) (.cons (.var 3) (.cons (.lit 0) .nil)))) (.cons (.app 82 (.cons (.var 5) (.cons (.var 3) (.cons (.lit 1) .nil)))) (.cons (.app 83 (.cons (.var 6) (.cons (.var 3) (.cons (.lit 0) .nil)))) (.cons (.var 2) (.cons (.app 82 (.cons (.var 7) (.cons (.var 3) (.cons (.lit 0) .nil)))) (.cons (.app 82 (.cons (.var 7) (.cons (.var 3) (.cons (.lit 1) .nil)))) (.cons (.var 4) .nil))))))))),(.int .i64 (.op .min (.op .add (.op .max (.lit 0) (.op .min (.op .quo (.op .min (.op .max (.app 4 (.cons (.op .min (.op .max (.var 4) (.app 82 (.cons (.var 5) (.cons (.var 3) (.cons (.lit 0) .nil))))) (.app 82 (.cons (.var 5) (.cons (.var 3) (.cons (.lit 1) .nil))))) (.cons (.app 82 (.cons (.var 5) (.cons (.var 3) (.cons (.lit 0) .nil)))) (.cons (.app 82 (.cons (.var 5) (.cons (.var 3) (.cons (.lit 1) .nil)))) (.cons (.app 82 (.cons (.var 7) (.cons (.var 3) (.cons (.lit 0) .nil)))) (.cons (.app 82 (.cons (.var 7) (.cons (.var 3) (.cons (.lit 1) .nil)))) .nil)))))) (.lit 0)) (.op .mul (.op .sub (.app 83 (.cons (.var 6) (.cons (.var 3) (.cons (.lit 0) .nil)))) (.lit 1)) (.lit 65536))) (.lit 65536)) (.op .sub (.app 83 (.cons (.var 6) (.cons (.var 3) (.cons (.lit 0) .nil)))) (.lit 2)))) (.lit 1)) (.op .sub (.app 83 (.cons (.var 6) (.cons (.var 3) (.cons (.lit 0) .nil)))) (.lit 1)))),(.int .i64 (.app 61 (.cons (.app 82 (.cons (.var 5) (.cons (.var 3) (.cons (.lit 0) .nil)))) (.cons (.app 82 (.cons (.var 5) (.cons (.var 3) (.cons (.lit 1) .nil)))) (.cons (.app 83 (.cons (.var 6) (.cons (.var 3) (.cons (.lit 0) .nil)))) (.cons (.var 2) (.cons (.app 82 (.cons (.var 7) (.cons (.var 3) (.cons (.lit 0) .nil)))) (.cons (.app 82 (.cons (.var 7) (.cons (.var 3) (.cons (.lit 1) .nil)))) (.cons (.var 4) .nil))))))))),(.int .i64 (.op .sub (.op .min (.op .max (.app 4 (.cons (.op .min (.op .max (.var 4) (.app 82 (.cons (.var 5) (.cons (.var 3) (.cons (.lit 0) .nil))))) (.app 82 (.cons (.var 5) (.cons (.var 3) (.cons (.lit 1) .nil))))) (.cons (.app 82 (.cons (.var 5) (.cons (.var 3) (.cons (.lit 0) .nil)))) (.cons (.app 82 (.cons (.var 5) (.cons (.var 3) (.cons (.lit 1) .nil)))) (.cons (.app 82 (.cons (.var 7) (.cons (.var 3) (.cons (.lit 0) .nil)))) (.cons (.app 82 (.cons (.var 7) (.cons (.var 3) (.cons (.lit 1) .nil)))) .nil)))))) (.lit 0)) (.op .mul (.op .sub (.app 83 (.cons (.var 6) (.cons (.var 3) (.cons (.lit 0) .nil)))) (.lit 1)) (.lit 65536))) (.op .mul (.op .max (.lit 0) (.op .min (.op .quo (.op .min (.op .max (.app 4 (.cons (.op .min (.op .max (.var 4) (.app 82 (.cons (.var 5) (.cons (.var 3) (.cons (.lit 0) .nil))))) (.app 82 (.cons (.var 5) (.cons (.var 3) (.cons (.lit 1) .nil))))) (.cons (.app 82 (.cons (.var 5) (.cons (.var 3) (.cons (.lit 0) .nil)))) (.cons (.app 82 (.cons (.var 5) (.cons (.var 3) (.cons (.lit 1) .nil)))) (.cons (.app 82 (.cons (.var 7) (.cons (.var 3) (.cons (.lit 0) .nil)))) (.cons (.app 82 (.cons (.var 7) (.cons (.var 3) (.cons (.lit 1) .nil)))) .nil)))))) (.lit 0)) (.op .mul (.op .sub (.app 83 (.cons (.var 6) (.cons (.var 3) (.cons (.lit 0) .nil)))) (.lit 1)) (.lit 65536))) (.lit 65536)) (.op .sub (.app 83 (.cons (.var 6) (.cons (.var 3) (.cons (.lit 0) .nil)))) (.lit 2)))) (.lit 65536)))),(.int .i64 (.app 62 (.cons (.app 82 (.cons (.var 5) (.cons (.var 3) (.cons (.lit 0) .nil)))) (.cons (.app 82 (.cons (.var 5) (.cons (.var 3) (.cons (.lit 1) .nil)))) (.cons (.app 83 (.cons (.var 6) (.cons (.var 3) (.cons (.lit 0) .nil)))) (.cons (.var 2) (.cons (.app 82 (.cons (.var 7) (.cons (.var 3) (.cons (.lit 0) .nil)))) (.cons (.app 82 (.cons (.var 7) (.cons (.var 3) (.cons (.lit 1) .nil)))) (.cons (.var 4) .nil)))))))))]),(.bool (.lit true))])
def aOD:List B:=aJ (B.neg pF)++aLj
def aQM:List B:=aJ (B.neg qB)++aOD
def aJb:SV:=(.tuple [(.agg [(.int .i64 (.op .max (.lit 0) (.op .min (.op .quo (.op .min (.op .max (.app 4 (.cons (.op .min (.op .max (.var 4) (.app 82 (.cons (.var 5) (.cons (.var 3) (.cons (.lit 0) .nil))))) (.app 82 (.cons (.var 5) (.cons (.var 3) (.cons (.lit 1) .nil))))) (.cons (.app 82 (.cons (.var 5) (.cons (.var 3) (.cons (.lit 0) .nil)))) (.cons (.app 82 (.cons (.var 5) (.cons (.var 3) (.cons (.lit 1) .nil)))) (.cons (.lit 0) (.cons (.op .mul (.op .sub (.app 83 (.cons (.var 6) (.cons (.var 3) (.cons (.lit 0) .nil)))) (.lit 1)) (.lit 65536)) .nil)))))) (.lit 0)) (.op .mul (.op .sub (.app 83 (.cons (.var 6) (.cons (.var 3) (.cons (.lit 0) .nil)))) (.lit 1)) (.lit 65536))) (.lit 65536)) (.op .sub (.app 83 (.cons (.var 6) (.cons (.var 3) (.cons (.lit 0) .nil)))) (.lit 2))))),(.int .i64 (.app 60 (.cons (.app 82 (.cons (.var 5) (.cons (.var 3) (.cons (.lit 0) .nil)))) (.cons (.app 82 (.cons (.var 5) (.cons (.var 3) (.cons (.lit 1) .nil)))) (.cons (.app 83 (.cons (.var 6) (.cons (.var 3) (.cons (.lit 0) .nil)))) (.cons (.var 2) (.cons (.app 82 (.cons (.var 7) (.cons (.var 3) (.cons (.lit 0) .nil)))) (.cons (.app 82 (.cons (.var 7) (.cons (.var 3) (.cons (.lit 1) .nil)))) (.cons (.var 4) .nil))))))))),(.int .i64 (.op .min (.op .add (.op .max (.lit 0) (.op .min (.op .quo (.op .min (.op .max (.app 4 (.cons (.op .min (.op .max (.var 4) (.app 82 (.cons (.var 5) (.cons (.var 3) (.cons (.lit 0) .nil))))) (.app 82 (.cons (.var 5) (.cons (.var 3) (.cons (.lit 1) .nil))))) (.cons (.app 82 (.cons (.var 5) (.cons (.var 3) (.cons (.lit 0) .nil)))) (.cons (.app 82 (.cons (.var 5) (.cons (.var 3) (.cons (.lit 1) .nil)))) (.cons (.lit 0) (.cons (.op .mul (.op .sub (.app 83 (.cons (.var 6) (.cons (.var 3) (.cons (.lit 0) .nil)))) (.lit 1)) (.lit 65536)) .nil)))))) (.lit 0)) (.op .mul (.op .sub (.app 83 (.cons (.var 6) (.cons (.var 3) (.cons (.lit 0) .nil)))) (.lit 1)) (.lit 65536))) (.lit 65536)) (.op .sub (.app 83 (.cons (.var 6) (.cons (.var 3) (.cons (.lit 0) .nil)))) (.lit 2)))) (.lit 1)) (.op .sub (.app 83 (.cons (.var 6) (.cons (.var 3) (.cons (.lit 0) .nil)))) (.lit 1)))),(.int .i64 (.app 61 (.cons (.app 82 (.cons (.var 5) (.cons (.var 3) (.cons (.lit 0) .nil)))) (.cons (.app 82 (.cons (.var 5) (.cons (.var 3) (.cons (.lit 1) .nil)))) (.cons (.app 83 (.cons (.var 6) (.cons (.var 3) (.cons (.lit 0) .nil)))) (.cons (.var 2) (.cons (.app 82 (.cons (.var 7) (.cons (.var 3) (.cons (.lit 0) .nil)))) (.cons (.app 82 (.cons (.var 7) (.cons (.var 3) (.cons (.lit 1) .nil)))) (.cons (.var 4) .nil))))))))),(.int .i64 (.op .sub (.op .min (.op .max (.app 4 (.cons (.op .min (.op .max (.var 4) (.app 82 (.cons (.var 5) (.cons (.var 3) (.cons (.lit 0) .nil))))) (.app 82 (.cons (.var 5) (.cons (.var 3) (.cons (.lit 1) .nil))))) (.cons (.app 82 (.cons (.var 5) (.cons (.var 3) (.cons (.lit 0) .nil)))) (.cons (.app 82 (.cons (.var 5) (.cons (.var 3) (.cons (.lit 1) .nil)))) (.cons (.lit 0) (.cons (.op .mul (.op .sub (.app 83 (.cons (.var 6) (.cons (.var 3) (.cons (.lit 0) .nil)))) (.lit 1)) (.lit 65536)) .nil)))))) (.lit 0)) (.op .mul (.op .sub (.app 83 (.cons (.var 6) (.cons (.var 3) (.cons (.lit 0) .nil)))) (.lit 1)) (.lit 65536))) (.op .mul (.op .max (.lit 0) (.op .min (.op .quo (.op .min (.op .max (.app 4 (.cons (.op .min (.op .max (.var 4) (.app 82 (.cons (.var 5) (.cons (.var 3) (.cons (.lit 0) .nil))))) (.app 82 (.cons (.var 5) (.cons (.var 3) (.cons (.lit 1) .nil))))) (.cons (.app 82 (.cons (.var 5) (.cons (.var 3) (.cons (.lit 0) .nil)))) (.cons (.app 82 (.cons (.var 5) (.cons (.var 3) (.cons (.lit 1) .nil)))) (.cons (.lit 0) (.cons (.op .mul (.op .sub (.app 83 (.cons (.var 6) (.cons (.var 3) (.cons (.lit 0) .nil)))) (.lit 1)) (.lit 65536)) .nil)))))) (.lit 0)) (.op .mul (.op .sub (.app 83 (.cons (.var 6) (.cons (.var 3) (.cons (.lit 0) .nil)))) (.lit 1)) (.lit 65536))) (.lit 65536)) (.op .sub (.app 83 (.cons (.var 6) (.cons (.var 3) (.cons (.lit 0) .nil)))) (.lit 2)))) (.lit 65536)))),(.int .i64 (.app 62 (.cons (.app 82 (.cons (.var 5) (.cons (.var 3) (.cons (.lit 0) .nil)))) (.cons (.app 82 (.cons (.var 5) (.cons (.var 3) (.cons (.lit 1) .nil)))) (.cons (.app 83 (.cons (.var 6) (.cons (.var 3) (.cons (.lit 0) .nil)))) (.cons (.var 2) (.cons (.app 82 (.cons (.var 7) (.cons (.var 3) (.cons (.lit 0) .nil)))) (.cons (.app 82 (.cons (.var 7) (.cons (.var 3) (.cons (.lit 1) .nil)))) (.cons (.var 4) .nil)))))))))]),(.bool (.lit true))])
theorem aUR:aSN Try.prog aVh = .ok aKs:=by kernel_rfl
theorem aQP:aSN Try.prog aQM = .ok aJb:=by kernel_rfl
end Go.Proofs.Ytdldallkeheciaa
namespace Go.Proofs.Ytdldallkeheciaa
open Go Go.RowKit Sx Wi Lk
def kJ:B:=(.and (.cmp .lt (.var 3) (.var 0)) (.and (.cmp .lt (.var 3) (.var 1)) (.and (.or (.cmp .eq (.var 2) (.lit 0)) (.cmp .lt (.var 3) (.var 2))) (.and (.cmp .le (.lit 1) (.app 83 (.cons (.var 6) (.cons (.var 3) (.cons (.lit 0) .nil))))) (.and (.cmp .le (.app 83 (.cons (.var 6) (.cons (.var 3) (.cons (.lit 0) .nil)))) (.lit 256)) (.cmp .lt (.app 82 (.cons (.var 5) (.cons (.var 3) (.cons (.lit 0) .nil)))) (.app 82 (.cons (.var 5) (.cons (.var 3) (.cons (.lit 1) .nil))))))))))
set_option maxHeartbeats 8000000 in
set_option maxRecDepth 100000 in
theorem aT1 (x0 x1 x2 x3 x4 l0 l1 l2:Int) (b0:0≤x0∧x0≤8) (b1:0≤x1∧x1≤8) (b2:0≤x2∧x2≤8) (b3:0≤x3∧x3≤3) (b4:(-2147483648)≤x4∧x4≤2147483647) (hp:(kJ).den G (cQ ([x0,x1,x2,x3,x4]++[l0,l1,l2]))=true):fX Try.prog G GB 26 aTF (cQ ([x0,x1,x2,x3,x4]++[l0,l1,l2])):=by
 refine cY (lp:=dO) (run:=aKC Try.prog) (fun _=>rfl) fits (bP (xs:=[x0,x1,x2,x3,x4]) (ls:=[l0,l1,l2]) (by exact⟨b0,b1,b2,b3,b4,trivial⟩)) eU (fun X hX hG=>dA hX hG) (fun X hX hG fn c hf hc=>cF) rfl ?_
 refine aG kN (fun h0=>?_) (fun h0=>?_)
 rotate_left
 ·skip
  refine aQ ?_
  unfold kN at h0;unfold kJ at hp;simp only[nn,List.cons_append,List.nil_append,Bool.or_eq_true,aP,ne_eq]at hp;exfalso;simp only[nn,List.cons_append,List.nil_append,Bool.or_eq_true,aP,ne_eq]at h0;generalize G 82 [l0,x3,0]=c0 at *;generalize G 82 [l0,x3,1]=c1 at *;generalize G 83 [l1,x3,0]=c2 at *;generalize G 82 [l2,x3,0]=c3 at *;generalize G 82 [l2,x3,1]=c4 at *;omega
 refine aG kX (fun h1=>?_) (fun h1=>?_)
 rotate_left
 ·skip
  refine aQ ?_
  unfold kN at h0;unfold kX at h1;unfold kJ at hp;simp only[nn,List.cons_append,List.nil_append,Bool.or_eq_true,aP,ne_eq]at hp;exfalso;simp only[nn,List.cons_append,List.nil_append,Bool.or_eq_true,aP,ne_eq]at h0 h1;generalize G 82 [l0,x3,0]=c0 at *;generalize G 82 [l0,x3,1]=c1 at *;generalize G 83 [l1,x3,0]=c2 at *;generalize G 82 [l2,x3,0]=c3 at *;generalize G 82 [l2,x3,1]=c4 at *;omega
 refine aG mI (fun h2=>?_) (fun h2=>?_)
 rotate_left
 ·skip
  refine aQ ?_
  unfold kN at h0;unfold kX at h1;unfold mI at h2;unfold kJ at hp;simp only[nn,List.cons_append,List.nil_append,Bool.or_eq_true,aP,ne_eq]at hp;exfalso;simp only[nn,List.cons_append,List.nil_append,Bool.or_eq_true,aP,ne_eq]at h0 h1 h2;generalize G 82 [l0,x3,0]=c0 at *;generalize G 82 [l0,x3,1]=c1 at *;generalize G 83 [l1,x3,0]=c2 at *;generalize G 82 [l2,x3,0]=c3 at *;generalize G 82 [l2,x3,1]=c4 at *;omega
 refine aG oE (fun h3=>?_) (fun h3=>?_)
 rotate_left
 ·skip
  refine aQ ?_
  unfold kN at h0;unfold kX at h1;unfold mI at h2;unfold oE at h3;unfold kJ at hp;simp only[nn,List.cons_append,List.nil_append,Bool.or_eq_true,aP,ne_eq]at hp;exfalso;simp only[nn,List.cons_append,List.nil_append,Bool.or_eq_true,aP,ne_eq]at h0 h1 h2 h3;generalize G 82 [l0,x3,0]=c0 at *;generalize G 82 [l0,x3,1]=c1 at *;generalize G 83 [l1,x3,0]=c2 at *;generalize G 82 [l2,x3,0]=c3 at *;generalize G 82 [l2,x3,1]=c4 at *;omega
 refine aG pV (fun h4=>?_) (fun h4=>?_)
 rotate_left
 ·skip
  refine aQ ?_
  unfold kN at h0;unfold kX at h1;unfold mI at h2;unfold oE at h3;unfold pV at h4;unfold kJ at hp;simp only[nn,List.cons_append,List.nil_append,Bool.or_eq_true,aP,ne_eq]at hp;exfalso;simp only[nn,List.cons_append,List.nil_append,Bool.or_eq_true,aP,ne_eq]at h0 h1 h2 h3 h4;generalize G 82 [l0,x3,0]=c0 at *;generalize G 82 [l0,x3,1]=c1 at *;generalize G 83 [l1,x3,0]=c2 at *;generalize G 82 [l2,x3,0]=c3 at *;generalize G 82 [l2,x3,1]=c4 at *;omega
 refine aG pF (fun h5=>?_) (fun h5=>?_)
 rotate_left
 ·skip
  refine aG qB (fun h6=>?_) (fun h6=>?_)
  ·skip
   refine aQ ?_
   unfold kN at h0;unfold kX at h1;unfold mI at h2;unfold oE at h3;unfold pV at h4;unfold pF at h5;unfold qB at h6;unfold kJ at hp;simp only[nn,List.cons_append,List.nil_append,Bool.or_eq_true,aP,ne_eq]at hp;exfalso;simp only[nn,List.cons_append,List.nil_append,Bool.or_eq_true,aP,ne_eq]at h0 h1 h2 h3 h4 h5 h6;generalize G 82 [l0,x3,0]=c0 at *;generalize G 82 [l0,x3,1]=c1 at *;generalize G 83 [l1,x3,0]=c2 at *;generalize G 82 [l2,x3,0]=c3 at *;generalize G 82 [l2,x3,1]=c4 at *;omega
  refine aH aQP ?_
  unfold kN at h0;unfold kX at h1;unfold mI at h2;unfold oE at h3;unfold pV at h4;unfold pF at h5;unfold qB at h6;unfold kJ at hp;simp only[nn,List.cons_append,List.nil_append,Bool.or_eq_true,aP,ne_eq]at hp;unfold aJb;simp only[nn,List.cons_append,List.nil_append,Bool.or_eq_true,aP,ne_eq]at h0 h1 h2 h3 h4 h5 h6;simp only[bK];refine⟨rfl,?_⟩;simp only[aI];simp only[nn,List.cons_append,List.nil_append,Bool.or_eq_true,aP,ne_eq];obtain⟨e1,e2,e3⟩:=aHh (lo:=G 82 [l0,x3,0]) (hi:=G 82 [l0,x3,1]) (n:=G 83 [l1,x3,0]) (nE:=x2) (t0:=G 82 [l2,x3,0]) (t1:=G 82 [l2,x3,1]) (x:=x4) (T0:=0) (T1:=(G 83 [l1,x3,0]-1)*65536) ⟨by omega,by omega⟩ (by rw[if_neg (by omega)]) (by rw[if_neg (by omega)]);refine⟨?_,?_,?_,trivial⟩<;>first|with_reducible exact e1|with_reducible exact e2|with_reducible exact e3
 refine aG aAe (fun h6=>?_) (fun h6=>?_)
 rotate_left
 ·skip
  refine aQ ?_
  unfold kN at h0;unfold kX at h1;unfold mI at h2;unfold oE at h3;unfold pV at h4;unfold pF at h5;unfold aAe at h6;unfold kJ at hp;simp only[nn,List.cons_append,List.nil_append,Bool.or_eq_true,aP,ne_eq]at hp;exfalso;simp only[nn,List.cons_append,List.nil_append,Bool.or_eq_true,aP,ne_eq]at h0 h1 h2 h3 h4 h5 h6;generalize G 82 [l0,x3,0]=c0 at *;generalize G 82 [l0,x3,1]=c1 at *;generalize G 83 [l1,x3,0]=c2 at *;generalize G 82 [l2,x3,0]=c3 at *;generalize G 82 [l2,x3,1]=c4 at *;omega
 refine aG qB (fun h7=>?_) (fun h7=>?_)
 ·skip
  refine aQ ?_
  unfold kN at h0;unfold kX at h1;unfold mI at h2;unfold oE at h3;unfold pV at h4;unfold pF at h5;unfold aAe at h6;unfold qB at h7;unfold kJ at hp;simp only[nn,List.cons_append,List.nil_append,Bool.or_eq_true,aP,ne_eq]at hp;exfalso;simp only[nn,List.cons_append,List.nil_append,Bool.or_eq_true,aP,ne_eq]at h0 h1 h2 h3 h4 h5 h6 h7;generalize G 82 [l0,x3,0]=c0 at *;generalize G 82 [l0,x3,1]=c1 at *;generalize G 83 [l1,x3,0]=c2 at *;generalize G 82 [l2,x3,0]=c3 at *;generalize G 82 [l2,x3,1]=c4 at *;omega
 refine aH aUR ?_
 unfold kN at h0;unfold kX at h1;unfold mI at h2;unfold oE at h3;unfold pV at h4;unfold pF at h5;unfold aAe at h6;unfold qB at h7;unfold kJ at hp;simp only[nn,List.cons_append,List.nil_append,Bool.or_eq_true,aP,ne_eq]at hp;unfold aKs;simp only[nn,List.cons_append,List.nil_append,Bool.or_eq_true,aP,ne_eq]at h0 h1 h2 h3 h4 h5 h6 h7;simp only[bK];refine⟨rfl,?_⟩;simp only[aI];simp only[nn,List.cons_append,List.nil_append,Bool.or_eq_true,aP,ne_eq];obtain⟨e1,e2,e3⟩:=aHh (lo:=G 82 [l0,x3,0]) (hi:=G 82 [l0,x3,1]) (n:=G 83 [l1,x3,0]) (nE:=x2) (t0:=G 82 [l2,x3,0]) (t1:=G 82 [l2,x3,1]) (x:=x4) (T0:=G 82 [l2,x3,0]) (T1:=G 82 [l2,x3,1]) ⟨by omega,by omega⟩ (by rw[if_pos (by omega)]) (by rw[if_pos (by omega)]);refine⟨?_,?_,?_,trivial⟩<;>first|with_reducible exact e1|with_reducible exact e2|with_reducible exact e3
def aC6:Ctx→List SV→aM→Res (SV × aM):=dW GB [(0,8),(0,8),(0,8),(0,3),((-2147483648),2147483647)] 3 kJ aTF
theorem aWl {X:Ctx} {ρ:Nat→Int} (hX:X.Ok ρ) (hG:X.G=G):eV Try.prog X ρ GB 26 aC6:=by
 obtain⟨XG,XI,XV,XF⟩:=X
 simp only at hG
 subst hG
 refine cU hX ?_
 intro xs ls hw hl hp
 obtain⟨x0,y0,e0,b0,h0⟩:=aY hw
 obtain⟨x1,y1,e1,b1,h1⟩:=aY h0
 obtain⟨x2,y2,e2,b2,h2⟩:=aY h1
 obtain⟨x3,y3,e3,b3,h3⟩:=aY h2
 obtain⟨x4,y4,e4,b4,h4⟩:=aY h3
 have e5:=jJ h4
 subst e5 e4 e3 e2 e1 e0
 obtain⟨l0,z0,q0,hl0⟩:=bJ hl
 obtain⟨l1,z1,q1,hl1⟩:=bJ hl0
 obtain⟨l2,z2,q2,hl2⟩:=bJ hl1
 have q3:=List.length_eq_zero_iff.1 hl2
 subst q3 q2 q1 q0
 exact aT1 x0 x1 x2 x3 x4 l0 l1 l2 b0 b1 b2 b3 b4 hp
end Go.Proofs.Ytdldallkeheciaa
set_option maxRecDepth 100000
namespace Go.Proofs.Ytdldallkeheciaa
open Go Go.RowKit Sx Wi Lk
def aGG (P:Program) (fs:List B):Res SV:=aJe P fs
def aMq:List B:=[]
def dX:B:=(.cmp .lt (.lit 1) (.var 0))
def aLZ:List B:=aJ dX++aMq
def fL:B:=(.cmp .lt (.lit 2) (.var 0))
def aKw:List B:=aJ fL++aLZ
def jQ:B:=(.cmp .lt (.lit 3) (.var 0))
def aTs:List B:=aJ jQ++aKw
def rL:B:=(.cmp .le (.lit (-9223372036854775808)) (.app 71 (.cons (.app 71 (.cons (.app 71 (.cons (.app 71 (.cons (.app 71 (.cons (.op .add (.op .mul (.var 4) (.op .mul (.lit 2) (.op .sub (.var 3) (.var 2)))) (.op .mul (.op .mul (.op .mul (.op .mul (.op .sub (.op .shl (.lit 1) (.var 1)) (.lit 1)) (.lit 65536)) (.lit 65536)) (.lit 65536)) (.lit 65536))) (.cons (.lit 65536) .nil))) (.cons (.lit 65536) .nil))) (.cons (.lit 65536) .nil))) (.cons (.lit 65536) .nil))) (.cons (.op .mul (.lit 2) (.op .sub (.op .shl (.lit 1) (.var 1)) (.lit 1))) .nil))))
def aUh:List B:=aJ rL++aTs
def uJ:B:=(.cmp .le (.app 71 (.cons (.app 71 (.cons (.app 71 (.cons (.app 71 (.cons (.app 71 (.cons (.op .add (.op .mul (.var 4) (.op .mul (.lit 2) (.op .sub (.var 3) (.var 2)))) (.op .mul (.op .mul (.op .mul (.op .mul (.op .sub (.op .shl (.lit 1) (.var 1)) (.lit 1)) (.lit 65536)) (.lit 65536)) (.lit 65536)) (.lit 65536))) (.cons (.lit 65536) .nil))) (.cons (.lit 65536) .nil))) (.cons (.lit 65536) .nil))) (.cons (.lit 65536) .nil))) (.cons (.op .mul (.lit 2) (.op .sub (.op .shl (.lit 1) (.var 1)) (.lit 1))) .nil))) (.lit 9223372036854775807))
def aUC:List B:=aJ uJ++aUh
def xL:B:=(.cmp .le (.lit (-9223372036854775808)) (.op .add (.var 2) (.app 71 (.cons (.app 71 (.cons (.app 71 (.cons (.app 71 (.cons (.app 71 (.cons (.op .add (.op .mul (.var 4) (.op .mul (.lit 2) (.op .sub (.var 3) (.var 2)))) (.op .mul (.op .mul (.op .mul (.op .mul (.op .sub (.op .shl (.lit 1) (.var 1)) (.lit 1)) (.lit 65536)) (.lit 65536)) (.lit 65536)) (.lit 65536))) (.cons (.lit 65536) .nil))) (.cons (.lit 65536) .nil))) (.cons (.lit 65536) .nil))) (.cons (.lit 65536) .nil))) (.cons (.op .mul (.lit 2) (.op .sub (.op .shl (.lit 1) (.var 1)) (.lit 1))) .nil)))))
def aTU:List B:=aJ xL++aUC
def aBw:B:=(.cmp .le (.op .add (.var 2) (.app 71 (.cons (.app 71 (.cons (.app 71 (.cons (.app 71 (.cons (.app 71 (.cons (.op .add (.op .mul (.var 4) (.op .mul (.lit 2) (.op .sub (.var 3) (.var 2)))) (.op .mul (.op .mul (.op .mul (.op .mul (.op .sub (.op .shl (.lit 1) (.var 1)) (.lit 1)) (.lit 65536)) (.lit 65536)) (.lit 65536)) (.lit 65536))) (.cons (.lit 65536) .nil))) (.cons (.lit 65536) .nil))) (.cons (.lit 65536) .nil))) (.cons (.lit 65536) .nil))) (.cons (.op .mul (.lit 2) (.op .sub (.op .shl (.lit 1) (.var 1)) (.lit 1))) .nil)))) (.lit 9223372036854775807))
def aTL:List B:=aJ aBw++aTU
def aKV:SV:=(.tuple [(.agg [(.int .i64 (.op .max (.lit (-2147483648)) (.op .min (.lit 2147483647) (.op .add (.var 2) (.app 71 (.cons (.app 71 (.cons (.app 71 (.cons (.app 71 (.cons (.app 71 (.cons (.op .add (.op .mul (.var 4) (.op .mul (.lit 2) (.op .sub (.var 3) (.var 2)))) (.op .mul (.op .mul (.op .mul (.op .mul (.op .sub (.op .shl (.lit 1) (.var 1)) (.lit 1)) (.lit 65536)) (.lit 65536)) (.lit 65536)) (.lit 65536))) (.cons (.lit 65536) .nil))) (.cons (.lit 65536) .nil))) (.cons (.lit 65536) .nil))) (.cons (.lit 65536) .nil))) (.cons (.op .mul (.lit 2) (.op .sub (.op .shl (.lit 1) (.var 1)) (.lit 1))) .nil))))))),(.int .i64 (.app 68 (.cons (.var 0) (.cons (.var 1) (.cons (.var 2) (.cons (.var 3) (.cons (.var 4) .nil)))))))]),(.bool (.lit true))])
def aPI:List B:=aJ (B.neg jQ)++aKw
def rN:B:=(.cmp .le (.lit (-9223372036854775808)) (.app 71 (.cons (.app 71 (.cons (.app 71 (.cons (.app 71 (.cons (.op .add (.op .mul (.var 4) (.op .mul (.lit 2) (.op .sub (.var 3) (.var 2)))) (.op .mul (.op .mul (.op .mul (.op .sub (.op .shl (.lit 1) (.var 1)) (.lit 1)) (.lit 65536)) (.lit 65536)) (.lit 65536))) (.cons (.lit 65536) .nil))) (.cons (.lit 65536) .nil))) (.cons (.lit 65536) .nil))) (.cons (.op .mul (.lit 2) (.op .sub (.op .shl (.lit 1) (.var 1)) (.lit 1))) .nil))))
def aNc:List B:=aJ rN++aPI
def uG:B:=(.cmp .le (.app 71 (.cons (.app 71 (.cons (.app 71 (.cons (.app 71 (.cons (.op .add (.op .mul (.var 4) (.op .mul (.lit 2) (.op .sub (.var 3) (.var 2)))) (.op .mul (.op .mul (.op .mul (.op .sub (.op .shl (.lit 1) (.var 1)) (.lit 1)) (.lit 65536)) (.lit 65536)) (.lit 65536))) (.cons (.lit 65536) .nil))) (.cons (.lit 65536) .nil))) (.cons (.lit 65536) .nil))) (.cons (.op .mul (.lit 2) (.op .sub (.op .shl (.lit 1) (.var 1)) (.lit 1))) .nil))) (.lit 9223372036854775807))
def aPK:List B:=aJ uG++aNc
def zL:B:=(.cmp .le (.lit (-9223372036854775808)) (.op .add (.var 2) (.app 71 (.cons (.app 71 (.cons (.app 71 (.cons (.app 71 (.cons (.op .add (.op .mul (.var 4) (.op .mul (.lit 2) (.op .sub (.var 3) (.var 2)))) (.op .mul (.op .mul (.op .mul (.op .sub (.op .shl (.lit 1) (.var 1)) (.lit 1)) (.lit 65536)) (.lit 65536)) (.lit 65536))) (.cons (.lit 65536) .nil))) (.cons (.lit 65536) .nil))) (.cons (.lit 65536) .nil))) (.cons (.op .mul (.lit 2) (.op .sub (.op .shl (.lit 1) (.var 1)) (.lit 1))) .nil)))))
def aM7:List B:=aJ zL++aPK
def wK:B:=(.cmp .le (.op .add (.var 2) (.app 71 (.cons (.app 71 (.cons (.app 71 (.cons (.app 71 (.cons (.op .add (.op .mul (.var 4) (.op .mul (.lit 2) (.op .sub (.var 3) (.var 2)))) (.op .mul (.op .mul (.op .mul (.op .sub (.op .shl (.lit 1) (.var 1)) (.lit 1)) (.lit 65536)) (.lit 65536)) (.lit 65536))) (.cons (.lit 65536) .nil))) (.cons (.lit 65536) .nil))) (.cons (.lit 65536) .nil))) (.cons (.op .mul (.lit 2) (.op .sub (.op .shl (.lit 1) (.var 1)) (.lit 1))) .nil)))) (.lit 9223372036854775807))
def aNR:List B:=aJ wK++aM7
def aMl:SV:=(.tuple [(.agg [(.int .i64 (.op .max (.lit (-2147483648)) (.op .min (.lit 2147483647) (.op .add (.var 2) (.app 71 (.cons (.app 71 (.cons (.app 71 (.cons (.app 71 (.cons (.op .add (.op .mul (.var 4) (.op .mul (.lit 2) (.op .sub (.var 3) (.var 2)))) (.op .mul (.op .mul (.op .mul (.op .sub (.op .shl (.lit 1) (.var 1)) (.lit 1)) (.lit 65536)) (.lit 65536)) (.lit 65536))) (.cons (.lit 65536) .nil))) (.cons (.lit 65536) .nil))) (.cons (.lit 65536) .nil))) (.cons (.op .mul (.lit 2) (.op .sub (.op .shl (.lit 1) (.var 1)) (.lit 1))) .nil))))))),(.int .i64 (.app 68 (.cons (.var 0) (.cons (.var 1) (.cons (.var 2) (.cons (.var 3) (.cons (.var 4) .nil)))))))]),(.bool (.lit true))])
def aPZ:List B:=aJ (B.neg fL)++aLZ
def nT:B:=(.cmp .le (.lit (-9223372036854775808)) (.app 71 (.cons (.app 71 (.cons (.app 71 (.cons (.op .add (.op .mul (.var 4) (.op .mul (.lit 2) (.op .sub (.var 3) (.var 2)))) (.op .mul (.op .mul (.op .sub (.op .shl (.lit 1) (.var 1)) (.lit 1)) (.lit 65536)) (.lit 65536))) (.cons (.lit 65536) .nil))) (.cons (.lit 65536) .nil))) (.cons (.op .mul (.lit 2) (.op .sub (.op .shl (.lit 1) (.var 1)) (.lit 1))) .nil))))
def aPe:List B:=aJ nT++aPZ
def qI:B:=(.cmp .le (.app 71 (.cons (.app 71 (.cons (.app 71 (.cons (.op .add (.op .mul (.var 4) (.op .mul (.lit 2) (.op .sub (.var 3) (.var 2)))) (.op .mul (.op .mul (.op .sub (.op .shl (.lit 1) (.var 1)) (.lit 1)) (.lit 65536)) (.lit 65536))) (.cons (.lit 65536) .nil))) (.cons (.lit 65536) .nil))) (.cons (.op .mul (.lit 2) (.op .sub (.op .shl (.lit 1) (.var 1)) (.lit 1))) .nil))) (.lit 9223372036854775807))
def aQJ:List B:=aJ qI++aPe
def tQ:B:=(.cmp .le (.lit (-9223372036854775808)) (.op .add (.var 2) (.app 71 (.cons (.app 71 (.cons (.app 71 (.cons (.op .add (.op .mul (.var 4) (.op .mul (.lit 2) (.op .sub (.var 3) (.var 2)))) (.op .mul (.op .mul (.op .sub (.op .shl (.lit 1) (.var 1)) (.lit 1)) (.lit 65536)) (.lit 65536))) (.cons (.lit 65536) .nil))) (.cons (.lit 65536) .nil))) (.cons (.op .mul (.lit 2) (.op .sub (.op .shl (.lit 1) (.var 1)) (.lit 1))) .nil)))))
def aRQ:List B:=aJ tQ++aQJ
def wM:B:=(.cmp .le (.op .add (.var 2) (.app 71 (.cons (.app 71 (.cons (.app 71 (.cons (.op .add (.op .mul (.var 4) (.op .mul (.lit 2) (.op .sub (.var 3) (.var 2)))) (.op .mul (.op .mul (.op .sub (.op .shl (.lit 1) (.var 1)) (.lit 1)) (.lit 65536)) (.lit 65536))) (.cons (.lit 65536) .nil))) (.cons (.lit 65536) .nil))) (.cons (.op .mul (.lit 2) (.op .sub (.op .shl (.lit 1) (.var 1)) (.lit 1))) .nil)))) (.lit 9223372036854775807))
def aOz:List B:=aJ wM++aRQ
def aJT:SV:=(.tuple [(.agg [(.int .i64 (.op .max (.lit (-2147483648)) (.op .min (.lit 2147483647) (.op .add (.var 2) (.app 71 (.cons (.app 71 (.cons (.app 71 (.cons (.op .add (.op .mul (.var 4) (.op .mul (.lit 2) (.op .sub (.var 3) (.var 2)))) (.op .mul (.op .mul (.op .sub (.op .shl (.lit 1) (.var 1)) (.lit 1)) (.lit 65536)) (.lit 65536))) (.cons (.lit 65536) .nil))) (.cons (.lit 65536) .nil))) (.cons (.op .mul (.lit 2) (.op .sub (.op .shl (.lit 1) (.var 1)) (.lit 1))) .nil))))))),(.int .i64 (.app 68 (.cons (.var 0) (.cons (.var 1) (.cons (.var 2) (.cons (.var 3) (.cons (.var 4) .nil)))))))]),(.bool (.lit true))])
def aPp:List B:=aJ (B.neg dX)++aMq
def oG:B:=(.cmp .le (.lit (-9223372036854775808)) (.app 71 (.cons (.app 71 (.cons (.op .add (.op .mul (.var 4) (.op .mul (.lit 2) (.op .sub (.var 3) (.var 2)))) (.op .mul (.op .sub (.op .shl (.lit 1) (.var 1)) (.lit 1)) (.lit 65536))) (.cons (.lit 65536) .nil))) (.cons (.op .mul (.lit 2) (.op .sub (.op .shl (.lit 1) (.var 1)) (.lit 1))) .nil))))
def aM8:List B:=aJ oG++aPp
def qE:B:=(.cmp .le (.app 71 (.cons (.app 71 (.cons (.op .add (.op .mul (.var 4) (.op .mul (.lit 2) (.op .sub (.var 3) (.var 2)))) (.op .mul (.op .sub (.op .shl (.lit 1) (.var 1)) (.lit 1)) (.lit 65536))) (.cons (.lit 65536) .nil))) (.cons (.op .mul (.lit 2) (.op .sub (.op .shl (.lit 1) (.var 1)) (.lit 1))) .nil))) (.lit 9223372036854775807))
def aPH:List B:=aJ qE++aM8
def tF:B:=(.cmp .le (.lit (-9223372036854775808)) (.op .add (.var 2) (.app 71 (.cons (.app 71 (.cons (.op .add (.op .mul (.var 4) (.op .mul (.lit 2) (.op .sub (.var 3) (.var 2)))) (.op .mul (.op .sub (.op .shl (.lit 1) (.var 1)) (.lit 1)) (.lit 65536))) (.cons (.lit 65536) .nil))) (.cons (.op .mul (.lit 2) (.op .sub (.op .shl (.lit 1) (.var 1)) (.lit 1))) .nil)))))
def aQk:List B:=aJ tF++aPH
def wR:B:=(.cmp .le (.op .add (.var 2) (.app 71 (.cons (.app 71 (.cons (.op .add (.op .mul (.var 4) (.op .mul (.lit 2) (.op .sub (.var 3) (.var 2)))) (.op .mul (.op .sub (.op .shl (.lit 1) (.var 1)) (.lit 1)) (.lit 65536))) (.cons (.lit 65536) .nil))) (.cons (.op .mul (.lit 2) (.op .sub (.op .shl (.lit 1) (.var 1)) (.lit 1))) .nil)))) (.lit 9223372036854775807))
def aNX:List B:=aJ wR++aQk
def aLO:SV:=(.tuple [(.agg [(.int .i64 (.op .max (.lit (-2147483648)) (.op .min (.lit 2147483647) (.op .add (.var 2) (.app 71 (.cons (.app 71 (.cons (.op .add (.op .mul (.var 4) (.op .mul (.lit 2) (.op .sub (.var 3) (.var 2)))) (.op .mul (.op .sub (.op .shl (.lit 1) (.var 1)) (.lit 1)) (.lit 65536))) (.cons (.lit 65536) .nil))) (.cons (.op .mul (.lit 2) (.op .sub (.op .shl (.lit 1) (.var 1)) (.lit 1))) .nil))))))),(.int .i64 (.app 68 (.cons (.var 0) (.cons (.var 1) (.cons (.var 2) (.cons (.var 3) (.cons (.var 4) .nil)))))))]),(.bool (.lit true))])
theorem aUB:aGG Try.prog aTL = .ok aKV:=by kernel_rfl
theorem aP9:aGG Try.prog aNR = .ok aMl:=by kernel_rfl
theorem aNn:aGG Try.prog aOz = .ok aJT:=by kernel_rfl
theorem aRL:aGG Try.prog aNX = .ok aLO:=by kernel_rfl
end Go.Proofs.Ytdldallkeheciaa
