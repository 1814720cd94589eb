/- What is proved: what some functions leave: the states. No condition but the numbers' own bounds. -/
import Derived.Test.YtdldallkeheciaaQa1
import Derived.Test.YtdldallkeheciaaQg4
import Derived.Test.YtdldallkeheciaaProg
import Derived.Test.YtdldallkeheciaaQNn
import Derived.Test.YtdldallkeheciaaQa5
set_option linter.unusedSimpArgs false
set_option linter.unusedVariables false
namespace Go.Proofs.Ytdldallkeheciaa
open Go Go.RowKit Sx Wi Lk
def aT4:B:=(.lit true)
def aTr:FunS:=⟨[(.own 0 (.var 0) none),(.int .i64 (.var 1)),(.int .i64 (.var 2))],[some ([.vec [.int .u8] (.var 3) (.var 0) true],aG)],aT4,(.tuple [(.int .u32 (.app 67 (.cons (.var 3) (.cons (.var 0) (.cons (.var 1) (.cons (.var 2) .nil)))))),(.int .i64 (.app 69 (.cons (.var 0) (.cons (.var 1) (.cons (.var 2) .nil)))))]),[some ([.vec [.int .u8] (.var 3) (.var 0) true],aG)],(.tuple [(.int .u32 (.app 67 (.cons (.var 3) (.cons (.var 0) (.cons (.var 1) (.cons (.var 2) .nil)))))),(.int .i64 (.app 69 (.cons (.var 0) (.cons (.var 1) (.cons (.var 2) .nil)))))]),[some ([.vec [.int .u8] (.var 3) (.var 0) true],aG)]⟩
def aKd (P:Program) (fs:List B):Res SV:=cO G GI [(0,70000),(0,1099511627776),(1,16)] fs fun X=>gQ P X GB jY eG 4000 20 aTr
def aT7:B:=(.lit true)
def aSp:FunS:=⟨[(.agg [.any,(.own 0 (.var 0) none),.any,(.own 1 (.var 1) none),.any,(.own 2 (.var 2) none),.any,.any,.any,.any,.any,.any,.any,.any]),(.int .i64 (.var 3)),(.int .i32 (.var 4))],[some ([.vec [.int .i32,.int .i32] (.var 5) (.var 0) true],aG),some ([.vec [.int .i64] (.var 6) (.var 1) true],aG),some ([.vec [.int .i32,.int .i32] (.var 7) (.var 2) true],aG)],aT7,(.agg [(.int .i64 (.app 60 (.cons (.app 82 (.cons (.var 5) (.cons (.var 3) (.cons (.lit 0) .nil)))) (.cons (.app 82 (.cons (.var 5) (.cons (.var 3) (.cons (.lit 1) .nil)))) (.cons (.app 83 (.cons (.var 6) (.cons (.var 3) (.cons (.lit 0) .nil)))) (.cons (.var 2) (.cons (.app 82 (.cons (.var 7) (.cons (.var 3) (.cons (.lit 0) .nil)))) (.cons (.app 82 (.cons (.var 7) (.cons (.var 3) (.cons (.lit 1) .nil)))) (.cons (.var 4) .nil))))))))),(.int .i64 (.app 61 (.cons (.app 82 (.cons (.var 5) (.cons (.var 3) (.cons (.lit 0) .nil)))) (.cons (.app 82 (.cons (.var 5) (.cons (.var 3) (.cons (.lit 1) .nil)))) (.cons (.app 83 (.cons (.var 6) (.cons (.var 3) (.cons (.lit 0) .nil)))) (.cons (.var 2) (.cons (.app 82 (.cons (.var 7) (.cons (.var 3) (.cons (.lit 0) .nil)))) (.cons (.app 82 (.cons (.var 7) (.cons (.var 3) (.cons (.lit 1) .nil)))) (.cons (.var 4) .nil))))))))),(.int .i64 (.app 62 (.cons (.app 82 (.cons (.var 5) (.cons (.var 3) (.cons (.lit 0) .nil)))) (.cons (.app 82 (.cons (.var 5) (.cons (.var 3) (.cons (.lit 1) .nil)))) (.cons (.app 83 (.cons (.var 6) (.cons (.var 3) (.cons (.lit 0) .nil)))) (.cons (.var 2) (.cons (.app 82 (.cons (.var 7) (.cons (.var 3) (.cons (.lit 0) .nil)))) (.cons (.app 82 (.cons (.var 7) (.cons (.var 3) (.cons (.lit 1) .nil)))) (.cons (.var 4) .nil)))))))))]),[some ([.vec [.int .i32,.int .i32] (.var 5) (.var 0) true],aG),some ([.vec [.int .i64] (.var 6) (.var 1) true],aG),some ([.vec [.int .i32,.int .i32] (.var 7) (.var 2) true],aG)],(.agg [(.int .i64 (.app 60 (.cons (.app 82 (.cons (.var 5) (.cons (.var 3) (.cons (.lit 0) .nil)))) (.cons (.app 82 (.cons (.var 5) (.cons (.var 3) (.cons (.lit 1) .nil)))) (.cons (.app 83 (.cons (.var 6) (.cons (.var 3) (.cons (.lit 0) .nil)))) (.cons (.var 2) (.cons (.app 82 (.cons (.var 7) (.cons (.var 3) (.cons (.lit 0) .nil)))) (.cons (.app 82 (.cons (.var 7) (.cons (.var 3) (.cons (.lit 1) .nil)))) (.cons (.var 4) .nil))))))))),(.int .i64 (.app 61 (.cons (.app 82 (.cons (.var 5) (.cons (.var 3) (.cons (.lit 0) .nil)))) (.cons (.app 82 (.cons (.var 5) (.cons (.var 3) (.cons (.lit 1) .nil)))) (.cons (.app 83 (.cons (.var 6) (.cons (.var 3) (.cons (.lit 0) .nil)))) (.cons (.var 2) (.cons (.app 82 (.cons (.var 7) (.cons (.var 3) (.cons (.lit 0) .nil)))) (.cons (.app 82 (.cons (.var 7) (.cons (.var 3) (.cons (.lit 1) .nil)))) (.cons (.var 4) .nil))))))))),(.int .i64 (.app 62 (.cons (.app 82 (.cons (.var 5) (.cons (.var 3) (.cons (.lit 0) .nil)))) (.cons (.app 82 (.cons (.var 5) (.cons (.var 3) (.cons (.lit 1) .nil)))) (.cons (.app 83 (.cons (.var 6) (.cons (.var 3) (.cons (.lit 0) .nil)))) (.cons (.var 2) (.cons (.app 82 (.cons (.var 7) (.cons (.var 3) (.cons (.lit 0) .nil)))) (.cons (.app 82 (.cons (.var 7) (.cons (.var 3) (.cons (.lit 1) .nil)))) (.cons (.var 4) .nil)))))))))]),[some ([.vec [.int .i32,.int .i32] (.var 5) (.var 0) true],aG),some ([.vec [.int .i64] (.var 6) (.var 1) true],aG),some ([.vec [.int .i32,.int .i32] (.var 7) (.var 2) true],aG)]⟩
def aIK (P:Program) (fs:List B):Res SV:=cO G GI [(0,8),(0,8),(0,8),(0,3),((-2147483648),2147483647)] fs fun X=>gQ P X GB jY eG 4000 26 aSp
def aUg:B:=(.lit true)
def aRO:FunS:=⟨[(.agg [.any,.any,.any,(.own 0 (.var 0) none),(.int .i64 (.var 1)),.any,.any,.any,.any,.any,.any,.any,.any,.any]),(.agg [(.int .i32 (.var 2)),(.int .i32 (.var 3))]),(.agg [(.int .i64 (.app 0 (.cons (.var 4) .nil))),(.int .u64 (.app 1 (.cons (.var 4) .nil)))])],[some ([.vec [.int .i64] (.var 5) (.var 0) true],aG)],aUg,(.int .i32 (.app 68 (.cons (.var 0) (.cons (.var 1) (.cons (.var 2) (.cons (.var 3) (.cons (.var 4) .nil))))))),[some ([.vec [.int .i64] (.var 5) (.var 0) true],aG)],(.int .i32 (.app 68 (.cons (.var 0) (.cons (.var 1) (.cons (.var 2) (.cons (.var 3) (.cons (.var 4) .nil))))))),[some ([.vec [.int .i64] (.var 5) (.var 0) true],aG)]⟩
def aIo (P:Program) (fs:List B):Res SV:=cO G GI [(1,4),(1,16),((-2147483648),2147483647),((-2147483648),2147483647),(0,1208925819614629174706176)] fs fun X=>gQ P X GB jY eG 4000 32 aRO
end Go.Proofs.Ytdldallkeheciaa
set_option maxRecDepth 100000
namespace Go.Proofs.Ytdldallkeheciaa
open Go Go.RowKit Sx Wi Lk
def aFU (P:Program) (fs:List B):Res SV:=aKd P fs
def aJ6:List B:=[]
def iD:B:=(.cmp .le (.var 1) (.op .sub (.op .mul (.lit 8) (.var 0)) (.var 2)))
def aRB:List B:=aI iD++aJ6
def kI:B:=(.cmp .le (.op .quo (.var 1) (.lit 8)) (.op .quo (.op .sub (.op .add (.op .add (.var 1) (.var 2)) (.lit 8)) (.lit 1)) (.lit 8)))
def aSy:List B:=aI kI++aRB
def lE:B:=(.cmp .le (.op .quo (.op .sub (.op .add (.op .add (.var 1) (.var 2)) (.lit 8)) (.lit 1)) (.lit 8)) (.var 0))
def aS7:List B:=aI lE++aSy
def mK:B:=(.cmp .lt (.lit 0) (.op .sub (.op .quo (.op .sub (.op .add (.op .add (.var 1) (.var 2)) (.lit 8)) (.lit 1)) (.lit 8)) (.op .quo (.var 1) (.lit 8))))
def aRj:List B:=aI mK++aS7
def oE:B:=(.cmp .lt (.op .quo (.var 1) (.lit 8)) (.var 0))
def aJF:List B:=aI oE++aRj
def nP:B:=(.cmp .lt (.lit 1) (.op .sub (.op .quo (.op .sub (.op .add (.op .add (.var 1) (.var 2)) (.lit 8)) (.lit 1)) (.lit 8)) (.op .quo (.var 1) (.lit 8))))
def aSD:List B:=aI nP++aJF
def rG:B:=(.cmp .lt (.op .add (.op .quo (.var 1) (.lit 8)) (.lit 1)) (.var 0))
def aKD:List B:=aI rG++aSD
def sK:B:=(.cmp .lt (.lit 2) (.op .sub (.op .quo (.op .sub (.op .add (.op .add (.var 1) (.var 2)) (.lit 8)) (.lit 1)) (.lit 8)) (.op .quo (.var 1) (.lit 8))))
def aSQ:List B:=aI sK++aKD
def yL:B:=(.cmp .lt (.op .add (.op .quo (.var 1) (.lit 8)) (.lit 2)) (.var 0))
def aSJ:List B:=aI yL++aSQ
def aB1:B:=(.cmp .le (.op .sub (.op .quo (.op .sub (.op .add (.op .add (.var 1) (.var 2)) (.lit 8)) (.lit 1)) (.lit 8)) (.op .quo (.var 1) (.lit 8))) (.lit 3))
def aLF:List B:=aI aB1++aSJ
def aI6:SV:=(.tuple [(.agg [(.int .i64 (.bit .and .u64 (.op .fdiv (.bit .or .u64 (.wrap .u64 (.op .mul (.bit .or .u64 (.wrap .u64 (.op .mul (.bit .or .u64 (.lit 0) (.app 84 (.cons (.var 3) (.cons (.op .quo (.var 1) (.lit 8)) (.cons (.lit 0) .nil))))) (.lit 256))) (.app 84 (.cons (.var 3) (.cons (.op .add (.op .quo (.var 1) (.lit 8)) (.lit 1)) (.cons (.lit 0) .nil))))) (.lit 256))) (.app 84 (.cons (.var 3) (.cons (.op .add (.op .quo (.var 1) (.lit 8)) (.lit 2)) (.cons (.lit 0) .nil))))) (.op .shl (.lit 1) (.bit .and .i64 (.op .sub (.lit 0) (.op .add (.var 1) (.var 2))) (.lit 7)))) (.op .sub (.op .shl (.lit 1) (.var 2)) (.lit 1)))),(.int .i64 (.app 67 (.cons (.var 3) (.cons (.var 0) (.cons (.var 1) (.cons (.var 2) .nil)))))),(.int .i64 (.lit 0)),(.int .i64 (.app 69 (.cons (.var 0) (.cons (.var 1) (.cons (.var 2) .nil)))))]),(.bool (.lit true))])
def aMc:List B:=aI (B.neg sK)++aKD
def aJJ:SV:=(.tuple [(.agg [(.int .i64 (.bit .and .u64 (.op .fdiv (.bit .or .u64 (.wrap .u64 (.op .mul (.bit .or .u64 (.lit 0) (.app 84 (.cons (.var 3) (.cons (.op .quo (.var 1) (.lit 8)) (.cons (.lit 0) .nil))))) (.lit 256))) (.app 84 (.cons (.var 3) (.cons (.op .add (.op .quo (.var 1) (.lit 8)) (.lit 1)) (.cons (.lit 0) .nil))))) (.op .shl (.lit 1) (.bit .and .i64 (.op .sub (.lit 0) (.op .add (.var 1) (.var 2))) (.lit 7)))) (.op .sub (.op .shl (.lit 1) (.var 2)) (.lit 1)))),(.int .i64 (.app 67 (.cons (.var 3) (.cons (.var 0) (.cons (.var 1) (.cons (.var 2) .nil)))))),(.int .i64 (.lit 0)),(.int .i64 (.app 69 (.cons (.var 0) (.cons (.var 1) (.cons (.var 2) .nil)))))]),(.bool (.lit true))])
def aLP:List B:=aI (B.neg nP)++aJF
def aIN:SV:=(.tuple [(.agg [(.int .i64 (.bit .and .u64 (.op .fdiv (.bit .or .u64 (.lit 0) (.app 84 (.cons (.var 3) (.cons (.op .quo (.var 1) (.lit 8)) (.cons (.lit 0) .nil))))) (.op .shl (.lit 1) (.bit .and .i64 (.op .sub (.lit 0) (.op .add (.var 1) (.var 2))) (.lit 7)))) (.op .sub (.op .shl (.lit 1) (.var 2)) (.lit 1)))),(.int .i64 (.app 67 (.cons (.var 3) (.cons (.var 0) (.cons (.var 1) (.cons (.var 2) .nil)))))),(.int .i64 (.lit 0)),(.int .i64 (.app 69 (.cons (.var 0) (.cons (.var 1) (.cons (.var 2) .nil)))))]),(.bool (.lit true))])
def aMt:List B:=aI (B.neg iD)++aJ6
theorem aM9:aFU Try.prog aLF = .ok aI6:=by kernel_rfl
theorem aOm:aFU Try.prog aMc = .ok aJJ:=by kernel_rfl
theorem aNd:aFU Try.prog aLP = .ok aIN:=by kernel_rfl
theorem aMI:aFU Try.prog aMt = .ok (.tuple [(.agg [(.int .i64 (.lit 0)),(.int .i64 (.app 67 (.cons (.var 3) (.cons (.var 0) (.cons (.var 1) (.cons (.var 2) .nil)))))),(.int .i64 (.lit 5)),(.int .i64 (.app 69 (.cons (.var 0) (.cons (.var 1) (.cons (.var 2) .nil)))))]),(.bool (.lit true))]):=by kernel_rfl
end Go.Proofs.Ytdldallkeheciaa
namespace Go.Proofs.Ytdldallkeheciaa
open Go Go.RowKit Sx Wi Lk
set_option maxHeartbeats 8000000 in
set_option maxRecDepth 100000 in
theorem aSr (x0 x1 x2 l0:Int) (b0:0≤x0∧x0≤70000) (b1:0≤x1∧x1≤1099511627776) (b2:1≤x2∧x2≤16):fX Try.prog G GB 20 aTr (dM ([x0,x1,x2]++[l0])):=by
 refine dB (lp:=eG) (run:=aKd Try.prog) (fun _=>rfl) fits (cM (xs:=[x0,x1,x2]) (ls:=[l0]) (by exact⟨b0,b1,b2,trivial⟩)) iJ (fun X hX hG=>eL hX hG) (fun X hX hG fn c hf hc=>dD) rfl ?_
 refine aF iD (fun h0=>?_) (fun h0=>?_)
 rotate_left
 ·skip
  refine aH aMI ?_
  unfold iD at h0;simp only[nn,List.cons_append,List.nil_append,Bool.or_eq_true,aR,ne_eq]at h0;simp only[bI];refine⟨rfl,?_⟩;simp only[aJ];simp only[nn,List.cons_append,List.nil_append,Bool.or_eq_true,aR,ne_eq];obtain⟨e1,e2⟩:=aSv (B:=l0) (nB:=x0) (a:=x1) (n:=x2) (by omega);exact⟨e1,e2,trivial⟩
 refine aF kI (fun h1=>?_) (fun h1=>?_)
 rotate_left
 ·skip
  refine aU ?_
  unfold iD at h0;unfold kI at h1;simp only[nn,List.cons_append,List.nil_append,Bool.or_eq_true,aR,ne_eq]at h0 h1;have q1:=Int.tdiv_eq_ediv_of_nonneg (b:=8) b1.1;have q2:=Int.tdiv_eq_ediv_of_nonneg (b:=8) (show 0≤x1+x2+8-1 by omega);simp only[q1,q2]at *;exfalso;omega
 refine aF lE (fun h2=>?_) (fun h2=>?_)
 rotate_left
 ·skip
  refine aU ?_
  unfold iD at h0;unfold kI at h1;unfold lE at h2;simp only[nn,List.cons_append,List.nil_append,Bool.or_eq_true,aR,ne_eq]at h0 h1 h2;have q1:=Int.tdiv_eq_ediv_of_nonneg (b:=8) b1.1;have q2:=Int.tdiv_eq_ediv_of_nonneg (b:=8) (show 0≤x1+x2+8-1 by omega);simp only[q1,q2]at *;exfalso;omega
 refine aF mK (fun h3=>?_) (fun h3=>?_)
 rotate_left
 ·skip
  refine aU ?_
  unfold iD at h0;unfold kI at h1;unfold lE at h2;unfold mK at h3;simp only[nn,List.cons_append,List.nil_append,Bool.or_eq_true,aR,ne_eq]at h0 h1 h2 h3;have q1:=Int.tdiv_eq_ediv_of_nonneg (b:=8) b1.1;have q2:=Int.tdiv_eq_ediv_of_nonneg (b:=8) (show 0≤x1+x2+8-1 by omega);simp only[q1,q2]at *;exfalso;omega
 refine aF oE (fun h4=>?_) (fun h4=>?_)
 rotate_left
 ·skip
  refine aU ?_
  unfold iD at h0;unfold kI at h1;unfold lE at h2;unfold mK at h3;unfold oE at h4;simp only[nn,List.cons_append,List.nil_append,Bool.or_eq_true,aR,ne_eq]at h0 h1 h2 h3 h4;have q1:=Int.tdiv_eq_ediv_of_nonneg (b:=8) b1.1;have q2:=Int.tdiv_eq_ediv_of_nonneg (b:=8) (show 0≤x1+x2+8-1 by omega);simp only[q1,q2]at *;exfalso;omega
 refine aF nP (fun h5=>?_) (fun h5=>?_)
 rotate_left
 ·skip
  refine aH aNd ?_
  unfold iD at h0;unfold kI at h1;unfold lE at h2;unfold mK at h3;unfold oE at h4;unfold nP at h5;unfold aIN;simp only[nn,List.cons_append,List.nil_append,Bool.or_eq_true,aR,ne_eq]at h0 h1 h2 h3 h4 h5;simp only[bI];refine⟨rfl,?_⟩;simp only[aJ];simp only[nn,List.cons_append,List.nil_append,Bool.or_eq_true,aR,ne_eq];have e1:=aTF (B:=l0) (nB:=x0) (a:=x1) (n:=x2) b1.1 b2 (by omega) (by omega);have e2:=aAV (nB:=x0) (a:=x1) (n:=x2) (by omega);refine⟨?_,?_,trivial⟩<;>first|with_reducible exact e2|with_reducible exact e1
 refine aF rG (fun h6=>?_) (fun h6=>?_)
 rotate_left
 ·skip
  refine aU ?_
  unfold iD at h0;unfold kI at h1;unfold lE at h2;unfold mK at h3;unfold oE at h4;unfold nP at h5;unfold rG at h6;simp only[nn,List.cons_append,List.nil_append,Bool.or_eq_true,aR,ne_eq]at h0 h1 h2 h3 h4 h5 h6;have q1:=Int.tdiv_eq_ediv_of_nonneg (b:=8) b1.1;have q2:=Int.tdiv_eq_ediv_of_nonneg (b:=8) (show 0≤x1+x2+8-1 by omega);simp only[q1,q2]at *;exfalso;omega
 refine aF sK (fun h7=>?_) (fun h7=>?_)
 rotate_left
 ·skip
  refine aH aOm ?_
  unfold iD at h0;unfold kI at h1;unfold lE at h2;unfold mK at h3;unfold oE at h4;unfold nP at h5;unfold rG at h6;unfold sK at h7;unfold aJJ;simp only[nn,List.cons_append,List.nil_append,Bool.or_eq_true,aR,ne_eq]at h0 h1 h2 h3 h4 h5 h6 h7;simp only[bI];refine⟨rfl,?_⟩;simp only[aJ];simp only[nn,List.cons_append,List.nil_append,Bool.or_eq_true,aR,ne_eq];have e1:=aTI (B:=l0) (nB:=x0) (a:=x1) (n:=x2) b1.1 b2 (by omega) (by omega);have e2:=aAV (nB:=x0) (a:=x1) (n:=x2) (by omega);refine⟨?_,?_,trivial⟩<;>first|with_reducible exact e2|with_reducible exact e1
 refine aF yL (fun h8=>?_) (fun h8=>?_)
 rotate_left
 ·skip
  refine aU ?_
  unfold iD at h0;unfold kI at h1;unfold lE at h2;unfold mK at h3;unfold oE at h4;unfold nP at h5;unfold rG at h6;unfold sK at h7;unfold yL at h8;simp only[nn,List.cons_append,List.nil_append,Bool.or_eq_true,aR,ne_eq]at h0 h1 h2 h3 h4 h5 h6 h7 h8;have q1:=Int.tdiv_eq_ediv_of_nonneg (b:=8) b1.1;have q2:=Int.tdiv_eq_ediv_of_nonneg (b:=8) (show 0≤x1+x2+8-1 by omega);simp only[q1,q2]at *;exfalso;omega
 refine aF aB1 (fun h9=>?_) (fun h9=>?_)
 ·skip
  refine aH aM9 ?_
  unfold iD at h0;unfold kI at h1;unfold lE at h2;unfold mK at h3;unfold oE at h4;unfold nP at h5;unfold rG at h6;unfold sK at h7;unfold yL at h8;unfold aB1 at h9;unfold aI6;simp only[nn,List.cons_append,List.nil_append,Bool.or_eq_true,aR,ne_eq]at h0 h1 h2 h3 h4 h5 h6 h7 h8 h9;simp only[bI];refine⟨rfl,?_⟩;simp only[aJ];simp only[nn,List.cons_append,List.nil_append,Bool.or_eq_true,aR,ne_eq];have e1:=aTO (B:=l0) (nB:=x0) (a:=x1) (n:=x2) b1.1 b2 (by omega) (by omega);have e2:=aAV (nB:=x0) (a:=x1) (n:=x2) (by omega);refine⟨?_,?_,trivial⟩<;>first|with_reducible exact e2|with_reducible exact e1
 refine aU ?_
 unfold iD at h0;unfold kI at h1;unfold lE at h2;unfold mK at h3;unfold oE at h4;unfold nP at h5;unfold rG at h6;unfold sK at h7;unfold yL at h8;unfold aB1 at h9;simp only[nn,List.cons_append,List.nil_append,Bool.or_eq_true,aR,ne_eq]at h0 h1 h2 h3 h4 h5 h6 h7 h8 h9;have q1:=Int.tdiv_eq_ediv_of_nonneg (b:=8) b1.1;have q2:=Int.tdiv_eq_ediv_of_nonneg (b:=8) (show 0≤x1+x2+8-1 by omega);simp only[q1,q2]at *;exfalso;omega
def aCw:Ctx→List SV→aM→Res (SV × aM):=eA GB [(0,70000),(0,1099511627776),(1,16)] 1 (.lit true) aTr
theorem aTC {X:Ctx} {ρ:Nat→Int} (hX:X.Ok ρ) (hG:X.G=G):eT Try.prog X ρ GB 20 aCw:=by
 obtain⟨XG,XI,XV,XF⟩:=X
 simp only at hG
 subst hG
 refine cU hX ?_
 intro xs ls hw hl hp
 obtain⟨x0,y0,e0,b0,h0⟩:=aY hw
 obtain⟨x1,y1,e1,b1,h1⟩:=aY h0
 obtain⟨x2,y2,e2,b2,h2⟩:=aY h1
 have e3:=kG h2
 subst e3 e2 e1 e0
 obtain⟨l0,z0,q0,hl0⟩:=bL hl
 have q1:=List.length_eq_zero_iff.1 hl0
 subst q1 q0
 exact aSr x0 x1 x2 l0 b0 b1 b2
theorem aQ7 {n d k:Int} (hd:1≤d) (h:n<(k+1)*d):fq n d≤k:=by
 unfold fq;rw[if_pos hd,Int.fdiv_eq_ediv_of_nonneg _ (by omega)]
 have:=(Int.ediv_lt_iff_lt_mul (show 0<d by omega)).2 h
 omega
theorem aQ8 {n d k:Int} (hd:1≤d) (h:k*d≤n):k≤fq n d:=by
 unfold fq;rw[if_pos hd,Int.fdiv_eq_ediv_of_nonneg _ (by omega)]
 exact(Int.le_ediv_iff_mul_le (show 0<d by omega)).2 h
theorem aKw {c:Int}:∀ {m:Nat} {n:Int},n≤c*65536 ^ m→fqN m n≤c
 |0,n,h=>by simpa [fqN]using h
 |m+1,n,h=>by
  show fqN m (fq n 65536)≤c
  refine aKw (aQ7 (by decide) ?_)
  rw[Int.pow_succ,←Int.mul_assoc]at h
  omega
theorem aIy {c:Int}:∀ {m:Nat} {n:Int},c*65536 ^ m≤n→c≤fqN m n
 |0,n,h=>by simpa [fqN]using h
 |m+1,n,h=>by
  show c≤fqN m (fq n 65536)
  refine aIy (aQ8 (by decide) ?_)
  rw[Int.pow_succ,←Int.mul_assoc]at h
  exact h
theorem aSg {g d s M:Int} {m:Nat} (hg:1≤g) (hd : -4294967296≤d∧d≤4294967296) (hM:M=65536 ^ m) (h0:0≤s) (h1:s≤g*M) : -8589934593≤fq (fqN m (s*(2*d)+g*M)) (2*g)∧fq (fqN m (s*(2*d)+g*M)) (2*g)≤8589934593:=by
 have e1:s*(2*d)≤g*M*8589934592:=by
  have a:=Int.mul_le_mul_of_nonneg_left (show 2*d≤8589934592 by omega) h0
  have b:=Int.mul_le_mul_of_nonneg_right h1 (show (0:Int)≤8589934592 by decide)
  omega
 have e2:g*M*(-8589934592)≤s*(2*d):=by
  have a:=Int.mul_le_mul_of_nonneg_left (show -8589934592≤2*d by omega) h0
  have b:=Int.mul_le_mul_of_nonneg_right h1 (show (0:Int)≤8589934592 by decide)
  omega
 subst hM
 have p:(0:Int)<65536 ^ m:=Int.pow_pos (by decide)
 have u:fqN m (s*(2*d)+g*65536 ^ m)≤g*8589934593:=by
  refine aKw ?_
  have:g*8589934593*65536 ^ m=g*65536 ^ m*8589934593:=by grind
  omega
 have l:g*(-8589934593)≤fqN m (s*(2*d)+g*65536 ^ m):=by
  refine aIy ?_
  have:g*(-8589934593)*65536 ^ m=g*65536 ^ m*(-8589934593):=by grind
  have q:0<g*65536 ^ m:=Int.mul_pos (by omega) p
  omega
 refine⟨aQ8 (by omega) (by omega),aQ7 (by omega) (by omega)⟩
section
variable {b lo hi s P:Int}
theorem aF3 (hP:P=1*2 ^ b.toNat):max (-2147483648) (min 2147483647 (lo+fq (fq (s*(2*(hi-lo))+(P-1)*65536) 65536) (2*(P-1))))=kM 1 b lo hi s:=by
 subst hP
 rw[iT]
 show _=Fx.sat (lo+fq (fq (s*(2*(hi-lo))+(2 ^ b.toNat-1)*65536) 65536) (2*(2 ^ b.toNat-1)))
 rw[Int.one_mul]
theorem aGa (hP:P=1*2 ^ b.toNat):max (-2147483648) (min 2147483647 (lo+fq (fq (fq (s*(2*(hi-lo))+(P-1)*65536*65536) 65536) 65536) (2*(P-1))))=kM 2 b lo hi s:=by
 subst hP
 rw[iT]
 show _=Fx.sat (lo+fq (fq (fq (s*(2*(hi-lo))+(2 ^ b.toNat-1)*4294967296) 65536) 65536) (2*(2 ^ b.toNat-1)))
 rw[Int.one_mul,Int.mul_assoc _ (65536:Int)];rfl
theorem aGK (hP:P=1*2 ^ b.toNat):max (-2147483648) (min 2147483647 (lo+fq (fq (fq (fq (s*(2*(hi-lo))+(P-1)*65536*65536*65536) 65536) 65536) 65536) (2*(P-1))))=kM 3 b lo hi s:=by
 subst hP
 rw[iT]
 show _=Fx.sat (lo+fq (fq (fq (fq (s*(2*(hi-lo))+(2 ^ b.toNat-1)*281474976710656) 65536) 65536) 65536) (2*(2 ^ b.toNat-1)))
 rw[Int.one_mul,show (2 ^ b.toNat-1:Int)*65536*65536*65536=(2 ^ b.toNat-1)*281474976710656 by omega]
theorem aGd (hP:P=1*2 ^ b.toNat):max (-2147483648) (min 2147483647 (lo+fq (fq (fq (fq (fq (s*(2*(hi-lo))+(P-1)*65536*65536*65536*65536) 65536) 65536) 65536) 65536) (2*(P-1))))=kM 4 b lo hi s:=by
 subst hP
 rw[iT]
 show _=Fx.sat (lo+fq (fq (fq (fq (fq (s*(2*(hi-lo))+(2 ^ b.toNat-1)*18446744073709551616) 65536) 65536) 65536) 65536) (2*(2 ^ b.toNat-1)))
 rw[Int.one_mul,show (2 ^ b.toNat-1:Int)*65536*65536*65536*65536=(2 ^ b.toNat-1)*18446744073709551616 by omega]
end
theorem fD {b:Int} (h:1≤b∧b≤16):(2:Int)≤1*2 ^ b.toNat∧(1:Int)*2 ^ b.toNat≤65536:=by
 obtain⟨n,rfl⟩:=Int.eq_ofNat_of_zero_le (show 0≤b by omega)
 have h1:2 ^ 1≤2 ^ n:=Nat.pow_le_pow_right (by decide) (by omega)
 have h2:2 ^ n≤2 ^ 16:=Nat.pow_le_pow_right (by decide) (by omega)
 have c:((2 ^ n:Nat):Int)=2 ^ n:=by rw[Int.natCast_pow];rfl
 rw[Int.toNat_natCast,Int.one_mul,←c]
 omega
theorem bJ {P lo hi s:Int} (m:Nat) (M:Int) (hM:M=65536 ^ m) (hP:2≤P) (hlo : -2147483648≤lo∧lo≤2147483647) (hhi : -2147483648≤hi∧hi≤2147483647) (h0:0≤s) (h1:s≤(P-1)*(1*M)):
  -8589934593≤fq (fqN m (s*(2*(hi-lo))+(P-1)*M)) (2*(P-1))∧fq (fqN m (s*(2*(hi-lo))+(P-1)*M)) (2*(P-1))≤8589934593:=
 aSg (by omega) (by omega) hM h0 (by rwa [Int.one_mul]at h1)
theorem aGC {lo hi n nE t0 t1 x T0 T1:Int} (hn:1≤n∧n≤256) (h0:T0=if 0<nE then t0 else 0) (h1:T1=if 0<nE then t1 else (n-1)*65536):
  max 0 (min (Int.tdiv (min (max (G 4 [min (max x lo) hi,lo,hi,T0,T1]) 0) ((n-1)*65536)) 65536) (n-2))=G 60 [lo,hi,n,nE,t0,t1,x]∧
  min (max 0 (min (Int.tdiv (min (max (G 4 [min (max x lo) hi,lo,hi,T0,T1]) 0) ((n-1)*65536)) 65536) (n-2))+1) (n-1)=G 61 [lo,hi,n,nE,t0,t1,x]∧
  min (max (G 4 [min (max x lo) hi,lo,hi,T0,T1]) 0) ((n-1)*65536)-max 0 (min (Int.tdiv (min (max (G 4 [min (max x lo) hi,lo,hi,T0,T1]) 0) ((n-1)*65536)) 65536) (n-2))*65536=G 62 [lo,hi,n,nE,t0,t1,x]:=by
 subst h0 h1
 have e:stY lo hi n nE t0 t1 x=min (max (G 4 [min (max x lo) hi,lo,hi,(if 0<nE then t0 else 0),(if 0<nE then t1 else (n-1)*65536)]) 0) ((n-1)*65536):=rfl
 rw[←e]
 show _=jZ 0 255 (stS lo hi n nE t0 t1 x)∧_=jZ 0 255 (min (stS lo hi n nE t0 t1 x+1) (n-1))∧_=jZ 0 65536 (stY lo hi n nE t0 t1 x-stS lo hi n nE t0 t1 x*65536)
 have y0:0≤stY lo hi n nE t0 t1 x∧stY lo hi n nE t0 t1 x≤(n-1)*65536:=by rw[e];omega
 unfold stS jZ
 generalize stY lo hi n nE t0 t1 x=y at *
 rw[Int.tdiv_eq_ediv_of_nonneg y0.1]
 refine⟨by omega,by omega,by omega⟩
end Go.Proofs.Ytdldallkeheciaa
set_option maxRecDepth 100000
namespace Go.Proofs.Ytdldallkeheciaa
open Go Go.RowKit Sx Wi Lk
def aQO (P:Program) (fs:List B):Res SV:=aIK P fs
def aS8:List B:=[]
def kA:B:=(.cmp .lt (.var 3) (.var 0))
def aSl:List B:=aI kA++aS8
def kS:B:=(.cmp .lt (.var 3) (.var 1))
def aRK:List B:=aI kS++aSl
def mA:B:=(.cmp .le (.lit 1) (.app 83 (.cons (.var 6) (.cons (.var 3) (.cons (.lit 0) .nil)))))
def aSj:List B:=aI mA++aRK
def oA:B:=(.cmp .le (.app 83 (.cons (.var 6) (.cons (.var 3) (.cons (.lit 0) .nil)))) (.lit 256))
def aSK:List B:=aI oA++aSj
def pM:B:=(.cmp .lt (.app 82 (.cons (.var 5) (.cons (.var 3) (.cons (.lit 0) .nil)))) (.app 82 (.cons (.var 5) (.cons (.var 3) (.cons (.lit 1) .nil)))))
def aI9:List B:=aI pM++aSK
def pZ:B:=(.cmp .lt (.lit 0) (.var 2))
def aQ9:List B:=aI pZ++aI9
def yN:B:=(.cmp .lt (.var 3) (.var 2))
def aR0:List B:=aI yN++aQ9
def pP:B:=(.cmp .eq (.op .sub (.app 82 (.cons (.var 5) (.cons (.var 3) (.cons (.lit 1) .nil)))) (.app 82 (.cons (.var 5) (.cons (.var 3) (.cons (.lit 0) .nil))))) (.lit 0))
def aST:List B:=aI (B.neg pP)++aR0
def aLi:SV:=(.tuple [(.agg [(.int .i64 (.op .max (.lit 0) (.op .min (.op .quo (.op .min (.op .max (.app 4 (.cons (.op .min (.op .max (.var 4) (.app 82 (.cons (.var 5) (.cons (.var 3) (.cons (.lit 0) .nil))))) (.app 82 (.cons (.var 5) (.cons (.var 3) (.cons (.lit 1) .nil))))) (.cons (.app 82 (.cons (.var 5) (.cons (.var 3) (.cons (.lit 0) .nil)))) (.cons (.app 82 (.cons (.var 5) (.cons (.var 3) (.cons (.lit 1) .nil)))) (.cons (.app 82 (.cons (.var 7) (.cons (.var 3) (.cons (.lit 0) .nil)))) (.cons (.app 82 (.cons (.var 7) (.cons (.var 3) (.cons (.lit 1) .nil)))) .nil)))))) (.lit 0)) (.op .mul (.op .sub (.app 83 (.cons (.var 6) (.cons (.var 3) (.cons (.lit 0) .nil)))) (.lit 1)) (.lit 65536))) (.lit 65536)) (.op .sub (.app 83 (.cons (.var 6) (.cons (.var 3) (.cons (.lit 0) .nil)))) (.lit 2))))),(.int .i64 (.app 60 (.cons (.app 82 (.cons (.var 5) (.cons (.var 3) (.cons (.lit 0) .nil)))) (.cons (.app 82 (.cons (.var 5) (.cons (.var 3) (.cons (.lit 1) .nil)))) (.cons (.app 83 (.cons (.var 6) (.cons (.var 3) (.cons (.lit 0) .nil)))) (.cons (.var 2) (.cons (.app 82 (.cons (.var 7) (.cons (.var 3) (.cons (.lit 0) .nil)))) (.cons (.app 82 (.cons (.var 7) (.cons (.var 3) (.cons (.lit 1) .nil)))) (.cons (.var 4) .nil))))))))),(.int .i64 (.op .min (.op .add (.op .max (.lit 0) (.op .min (.op .quo (.op .min (.op .max (.app 4 (.cons (.op .min (.op .max (.var 4) (.app 82 (.cons (.var 5) (.cons (.var 3) (.cons (.lit 0) .nil))))) (.app 82 (.cons (.var 5) (.cons (.var 3) (.cons (.lit 1) .nil))))) (.cons (.app 82 (.cons (.var 5) (.cons (.var 3) (.cons (.lit 0) .nil)))) (.cons (.app 82 (.cons (.var 5) (.cons (.var 3) (.cons (.lit 1) .nil)))) (.cons (.app 82 (.cons (.var 7) (.cons (.var 3) (.cons (.lit 0) .nil)))) (.cons (.app 82 (.cons (.var 7) (.cons (.var 3) (.cons (.lit 1) .nil)))) .nil)))))) (.lit 0)) (.op .mul (.op .sub (.app 83 (.cons (.var 6) (.cons (.var 3) (.cons (.lit 0) .nil)))) (.lit 1)) (.lit 65536))) (.lit 65536)) (.op .sub (.app 83 (.cons (.var 6) (.cons (.var 3) (.cons (.lit 0) .nil)))) (.lit 2)))) (.lit 1)) (.op .sub (.app 83 (.cons (.var 6) (.cons (.var 3) (.cons (.lit 0) .nil)))) (.lit 1)))),(.int .i64 (.app 61 (.cons (.app 82 (.cons (.var 5) (.cons (.var 3) (.cons (.lit 0) .nil)))) (.cons (.app 82 (.cons (.var 5) (.cons (.var 3) (.cons (.lit 1) .nil)))) (.cons (.app 83 (.cons (.var 6) (.cons (.var 3) (.cons (.lit 0) .nil)))) (.cons (.var 2) (.cons (.app 82 (.cons (.var 7) (.cons (.var 3) (.cons (.lit 0) .nil)))) (.cons (.app 82 (.cons (.var 7) (.cons (.var 3) (.cons (.lit 1) .nil)))) (.cons (.var 4) .nil))))))))),(.int .i64 (.op .sub (.op .min (.op .max (.app 4 (.cons (.op .min (.op .max (.var 4) (.app 82 (.cons (.var 5) (.cons (.var 3) (.cons (.lit 0) .nil))))) (.app 82 (.cons (.var 5) (.cons (.var 3) (.cons (.lit 1) .nil))))) (.cons (.app 82 (.cons (.var 5) (.cons (.var 3) (.cons (.lit 0) .nil)))) (.cons (.app 82 (.cons (.var 5) (.cons (.var 3) (.cons (.lit 1) .nil)))) (.cons (.app 82 (.cons (.var 7) (.cons (.var 3) (.cons (.lit 0) .nil)))) (.cons (.app 82 (.cons (.var 7) (.cons (.var 3) (.cons (.lit 1) .nil)))) .nil)))))) (.lit 0)) (.op .mul (.op .sub (.app 83 (.cons (.var 6) (.cons (.var 3) (.cons (.lit 0) .nil)))) (.lit 1)) (.lit 65536))) (.op .mul (.op .max (.lit 0) (.op .min (.op .quo (.op .min (.op .max (.app 4 (.cons (.op .min (.op .max (.var 4) (.app 82 (.cons (.var 5) (.cons (.var 3) (.cons (.lit 0) .nil))))) (.app 82 (.cons (.var 5) (.cons (.var 3) (.cons (.lit 1) .nil))))) (.cons (.app 82 (.cons (.var 5) (.cons (.var 3) (.cons (.lit 0) .nil)))) (.cons (.app 82 (.cons (.var 5) (.cons (.var 3) (.cons (.lit 1) .nil)))) (.cons (.app 82 (.cons (.var 7) (.cons (.var 3) (.cons (.lit 0) .nil)))) (.cons (.app 82 (.cons (.var 7) (.cons (.var 3) (.cons (.lit 1) .nil)))) .nil)))))) (.lit 0)) (.op .mul (.op .sub (.app 83 (.cons (.var 6) (.cons (.var 3) (.cons (.lit 0) .nil)))) (.lit 1)) (.lit 65536))) (.lit 65536)) (.op .sub (.app 83 (.cons (.var 6) (.cons (.var 3) (.cons (.lit 0) .nil)))) (.lit 2)))) (.lit 65536)))),(.int .i64 (.app 62 (.cons (.app 82 (.cons (.var 5) (.cons (.var 3) (.cons (.lit 0) .nil)))) (.cons (.app 82 (.cons (.var 5) (.cons (.var 3) (.cons (.lit 1) .nil)))) (.cons (.app 83 (.cons (.var 6) (.cons (.var 3) (.cons (.lit 0) .nil)))) (.cons (.var 2) (.cons (.app 82 (.cons (.var 7) (.cons (.var 3) (.cons (.lit 0) .nil)))) (.cons (.app 82 (.cons (.var 7) (.cons (.var 3) (.cons (.lit 1) .nil)))) (.cons (.var 4) .nil)))))))))]),(.bool (.lit true))])
def aOl:List B:=aI (B.neg pZ)++aI9
def aNS:List B:=aI (B.neg pP)++aOl
def aLe:SV:=(.tuple [(.agg [(.int .i64 (.op .max (.lit 0) (.op .min (.op .quo (.op .min (.op .max (.app 4 (.cons (.op .min (.op .max (.var 4) (.app 82 (.cons (.var 5) (.cons (.var 3) (.cons (.lit 0) .nil))))) (.app 82 (.cons (.var 5) (.cons (.var 3) (.cons (.lit 1) .nil))))) (.cons (.app 82 (.cons (.var 5) (.cons (.var 3) (.cons (.lit 0) .nil)))) (.cons (.app 82 (.cons (.var 5) (.cons (.var 3) (.cons (.lit 1) .nil)))) (.cons (.lit 0) (.cons (.op .mul (.op .sub (.app 83 (.cons (.var 6) (.cons (.var 3) (.cons (.lit 0) .nil)))) (.lit 1)) (.lit 65536)) .nil)))))) (.lit 0)) (.op .mul (.op .sub (.app 83 (.cons (.var 6) (.cons (.var 3) (.cons (.lit 0) .nil)))) (.lit 1)) (.lit 65536))) (.lit 65536)) (.op .sub (.app 83 (.cons (.var 6) (.cons (.var 3) (.cons (.lit 0) .nil)))) (.lit 2))))),(.int .i64 (.app 60 (.cons (.app 82 (.cons (.var 5) (.cons (.var 3) (.cons (.lit 0) .nil)))) (.cons (.app 82 (.cons (.var 5) (.cons (.var 3) (.cons (.lit 1) .nil)))) (.cons (.app 83 (.cons (.var 6) (.cons (.var 3) (.cons (.lit 0) .nil)))) (.cons (.var 2) (.cons (.app 82 (.cons (.var 7) (.cons (.var 3) (.cons (.lit 0) .nil)))) (.cons (.app 82 (.cons (.var 7) (.cons (.var 3) (.cons (.lit 1) .nil)))) (.cons (.var 4) .nil))))))))),(.int .i64 (.op .min (.op .add (.op .max (.lit 0) (.op .min (.op .quo (.op .min (.op .max (.app 4 (.cons (.op .min (.op .max (.var 4) (.app 82 (.cons (.var 5) (.cons (.var 3) (.cons (.lit 0) .nil))))) (.app 82 (.cons (.var 5) (.cons (.var 3) (.cons (.lit 1) .nil))))) (.cons (.app 82 (.cons (.var 5) (.cons (.var 3) (.cons (.lit 0) .nil)))) (.cons (.app 82 (.cons (.var 5) (.cons (.var 3) (.cons (.lit 1) .nil)))) (.cons (.lit 0) (.cons (.op .mul (.op .sub (.app 83 (.cons (.var 6) (.cons (.var 3) (.cons (.lit 0) .nil)))) (.lit 1)) (.lit 65536)) .nil)))))) (.lit 0)) (.op .mul (.op .sub (.app 83 (.cons (.var 6) (.cons (.var 3) (.cons (.lit 0) .nil)))) (.lit 1)) (.lit 65536))) (.lit 65536)) (.op .sub (.app 83 (.cons (.var 6) (.cons (.var 3) (.cons (.lit 0) .nil)))) (.lit 2)))) (.lit 1)) (.op .sub (.app 83 (.cons (.var 6) (.cons (.var 3) (.cons (.lit 0) .nil)))) (.lit 1)))),(.int .i64 (.app 61 (.cons (.app 82 (.cons (.var 5) (.cons (.var 3) (.cons (.lit 0) .nil)))) (.cons (.app 82 (.cons (.var 5) (.cons (.var 3) (.cons (.lit 1) .nil)))) (.cons (.app 83 (.cons (.var 6) (.cons (.var 3) (.cons (.lit 0) .nil)))) (.cons (.var 2) (.cons (.app 82 (.cons (.var 7) (.cons (.var 3) (.cons (.lit 0) .nil)))) (.cons (.app 82 (.cons (.var 7) (.cons (.var 3) (.cons (.lit 1) .nil)))) (.cons (.var 4) .nil))))))))),(.int .i64 (.op .sub (.op .min (.op .max (.app 4 (.cons (.op .min (.op .max (.var 4) (.app 82 (.cons (.var 5) (.cons (.var 3) (.cons (.lit 0) .nil))))) (.app 82 (.cons (.var 5) (.cons (.var 3) (.cons (.lit 1) .nil))))) (.cons (.app 82 (.cons (.var 5) (.cons (.var 3) (.cons (.lit 0) .nil)))) (.cons (.app 82 (.cons (.var 5) (.cons (.var 3) (.cons (.lit 1) .nil)))) (.cons (.lit 0) (.cons (.op .mul (.op .sub (.app 83 (.cons (.var 6) (.cons (.var 3) (.cons (.lit 0) .nil)))) (.lit 1)) (.lit 65536)) .nil)))))) (.lit 0)) (.op .mul (.op .sub (.app 83 (.cons (.var 6) (.cons (.var 3) (.cons (.lit 0) .nil)))) (.lit 1)) (.lit 65536))) (.op .mul (.op .max (.lit 0) (.op .min (.op .quo (.op .min (.op .max (.app 4 (.cons (.op .min (.op .max (.var 4) (.app 82 (.cons (.var 5) (.cons (.var 3) (.cons (.lit 0) .nil))))) (.app 82 (.cons (.var 5) (.cons (.var 3) (.cons (.lit 1) .nil))))) (.cons (.app 82 (.cons (.var 5) (.cons (.var 3) (.cons (.lit 0) .nil)))) (.cons (.app 82 (.cons (.var 5) (.cons (.var 3) (.cons (.lit 1) .nil)))) (.cons (.lit 0) (.cons (.op .mul (.op .sub (.app 83 (.cons (.var 6) (.cons (.var 3) (.cons (.lit 0) .nil)))) (.lit 1)) (.lit 65536)) .nil)))))) (.lit 0)) (.op .mul (.op .sub (.app 83 (.cons (.var 6) (.cons (.var 3) (.cons (.lit 0) .nil)))) (.lit 1)) (.lit 65536))) (.lit 65536)) (.op .sub (.app 83 (.cons (.var 6) (.cons (.var 3) (.cons (.lit 0) .nil)))) (.lit 2)))) (.lit 65536)))),(.int .i64 (.app 62 (.cons (.app 82 (.cons (.var 5) (.cons (.var 3) (.cons (.lit 0) .nil)))) (.cons (.app 82 (.cons (.var 5) (.cons (.var 3) (.cons (.lit 1) .nil)))) (.cons (.app 83 (.cons (.var 6) (.cons (.var 3) (.cons (.lit 0) .nil)))) (.cons (.var 2) (.cons (.app 82 (.cons (.var 7) (.cons (.var 3) (.cons (.lit 0) .nil)))) (.cons (.app 82 (.cons (.var 7) (.cons (.var 3) (.cons (.lit 1) .nil)))) (.cons (.var 4) .nil)))))))))]),(.bool (.lit true))])
theorem aTb:aQO Try.prog aST = .ok aLi:=by kernel_rfl
theorem aOO:aQO Try.prog aNS = .ok aLe:=by kernel_rfl
end Go.Proofs.Ytdldallkeheciaa
namespace Go.Proofs.Ytdldallkeheciaa
open Go Go.RowKit Sx Wi Lk
def jW:B:=(.and (.cmp .lt (.var 3) (.var 0)) (.and (.cmp .lt (.var 3) (.var 1)) (.and (.or (.cmp .eq (.var 2) (.lit 0)) (.cmp .lt (.var 3) (.var 2))) (.and (.cmp .le (.lit 1) (.app 83 (.cons (.var 6) (.cons (.var 3) (.cons (.lit 0) .nil))))) (.and (.cmp .le (.app 83 (.cons (.var 6) (.cons (.var 3) (.cons (.lit 0) .nil)))) (.lit 256)) (.cmp .lt (.app 82 (.cons (.var 5) (.cons (.var 3) (.cons (.lit 0) .nil)))) (.app 82 (.cons (.var 5) (.cons (.var 3) (.cons (.lit 1) .nil))))))))))
set_option maxHeartbeats 8000000 in
set_option maxRecDepth 100000 in
theorem aRA (x0 x1 x2 x3 x4 l0 l1 l2:Int) (b0:0≤x0∧x0≤8) (b1:0≤x1∧x1≤8) (b2:0≤x2∧x2≤8) (b3:0≤x3∧x3≤3) (b4:(-2147483648)≤x4∧x4≤2147483647) (hp:(jW).den G (dM ([x0,x1,x2,x3,x4]++[l0,l1,l2]))=true):fX Try.prog G GB 26 aSp (dM ([x0,x1,x2,x3,x4]++[l0,l1,l2])):=by
 refine dB (lp:=eG) (run:=aIK Try.prog) (fun _=>rfl) fits (cM (xs:=[x0,x1,x2,x3,x4]) (ls:=[l0,l1,l2]) (by exact⟨b0,b1,b2,b3,b4,trivial⟩)) iJ (fun X hX hG=>eL hX hG) (fun X hX hG fn c hf hc=>dD) rfl ?_
 refine aF kA (fun h0=>?_) (fun h0=>?_)
 rotate_left
 ·skip
  refine aU ?_
  unfold kA at h0;unfold jW at hp;simp only[nn,List.cons_append,List.nil_append,Bool.or_eq_true,aR,ne_eq]at hp;exfalso;simp only[nn,List.cons_append,List.nil_append,Bool.or_eq_true,aR,ne_eq]at h0;generalize G 82 [l0,x3,0]=c0 at *;generalize G 82 [l0,x3,1]=c1 at *;generalize G 83 [l1,x3,0]=c2 at *;generalize G 82 [l2,x3,0]=c3 at *;generalize G 82 [l2,x3,1]=c4 at *;omega
 refine aF kS (fun h1=>?_) (fun h1=>?_)
 rotate_left
 ·skip
  refine aU ?_
  unfold kA at h0;unfold kS at h1;unfold jW at hp;simp only[nn,List.cons_append,List.nil_append,Bool.or_eq_true,aR,ne_eq]at hp;exfalso;simp only[nn,List.cons_append,List.nil_append,Bool.or_eq_true,aR,ne_eq]at h0 h1;generalize G 82 [l0,x3,0]=c0 at *;generalize G 82 [l0,x3,1]=c1 at *;generalize G 83 [l1,x3,0]=c2 at *;generalize G 82 [l2,x3,0]=c3 at *;generalize G 82 [l2,x3,1]=c4 at *;omega
 refine aF mA (fun h2=>?_) (fun h2=>?_)
 rotate_left
 ·skip
  refine aU ?_
  unfold kA at h0;unfold kS at h1;unfold mA at h2;unfold jW at hp;simp only[nn,List.cons_append,List.nil_append,Bool.or_eq_true,aR,ne_eq]at hp;exfalso;simp only[nn,List.cons_append,List.nil_append,Bool.or_eq_true,aR,ne_eq]at h0 h1 h2;generalize G 82 [l0,x3,0]=c0 at *;generalize G 82 [l0,x3,1]=c1 at *;generalize G 83 [l1,x3,0]=c2 at *;generalize G 82 [l2,x3,0]=c3 at *;generalize G 82 [l2,x3,1]=c4 at *;omega
 refine aF oA (fun h3=>?_) (fun h3=>?_)
 rotate_left
 ·skip
  refine aU ?_
  unfold kA at h0;unfold kS at h1;unfold mA at h2;unfold oA at h3;unfold jW at hp;simp only[nn,List.cons_append,List.nil_append,Bool.or_eq_true,aR,ne_eq]at hp;exfalso;simp only[nn,List.cons_append,List.nil_append,Bool.or_eq_true,aR,ne_eq]at h0 h1 h2 h3;generalize G 82 [l0,x3,0]=c0 at *;generalize G 82 [l0,x3,1]=c1 at *;generalize G 83 [l1,x3,0]=c2 at *;generalize G 82 [l2,x3,0]=c3 at *;generalize G 82 [l2,x3,1]=c4 at *;omega
 refine aF pM (fun h4=>?_) (fun h4=>?_)
 rotate_left
 ·skip
  refine aU ?_
  unfold kA at h0;unfold kS at h1;unfold mA at h2;unfold oA at h3;unfold pM at h4;unfold jW at hp;simp only[nn,List.cons_append,List.nil_append,Bool.or_eq_true,aR,ne_eq]at hp;exfalso;simp only[nn,List.cons_append,List.nil_append,Bool.or_eq_true,aR,ne_eq]at h0 h1 h2 h3 h4;generalize G 82 [l0,x3,0]=c0 at *;generalize G 82 [l0,x3,1]=c1 at *;generalize G 83 [l1,x3,0]=c2 at *;generalize G 82 [l2,x3,0]=c3 at *;generalize G 82 [l2,x3,1]=c4 at *;omega
 refine aF pZ (fun h5=>?_) (fun h5=>?_)
 rotate_left
 ·skip
  refine aF pP (fun h6=>?_) (fun h6=>?_)
  ·skip
   refine aU ?_
   unfold kA at h0;unfold kS at h1;unfold mA at h2;unfold oA at h3;unfold pM at h4;unfold pZ at h5;unfold pP at h6;unfold jW at hp;simp only[nn,List.cons_append,List.nil_append,Bool.or_eq_true,aR,ne_eq]at hp;exfalso;simp only[nn,List.cons_append,List.nil_append,Bool.or_eq_true,aR,ne_eq]at h0 h1 h2 h3 h4 h5 h6;generalize G 82 [l0,x3,0]=c0 at *;generalize G 82 [l0,x3,1]=c1 at *;generalize G 83 [l1,x3,0]=c2 at *;generalize G 82 [l2,x3,0]=c3 at *;generalize G 82 [l2,x3,1]=c4 at *;omega
  refine aH aOO ?_
  unfold kA at h0;unfold kS at h1;unfold mA at h2;unfold oA at h3;unfold pM at h4;unfold pZ at h5;unfold pP at h6;unfold jW at hp;simp only[nn,List.cons_append,List.nil_append,Bool.or_eq_true,aR,ne_eq]at hp;unfold aLe;simp only[nn,List.cons_append,List.nil_append,Bool.or_eq_true,aR,ne_eq]at h0 h1 h2 h3 h4 h5 h6;simp only[bI];refine⟨rfl,?_⟩;simp only[aJ];simp only[nn,List.cons_append,List.nil_append,Bool.or_eq_true,aR,ne_eq];obtain⟨e1,e2,e3⟩:=aGC (lo:=G 82 [l0,x3,0]) (hi:=G 82 [l0,x3,1]) (n:=G 83 [l1,x3,0]) (nE:=x2) (t0:=G 82 [l2,x3,0]) (t1:=G 82 [l2,x3,1]) (x:=x4) (T0:=0) (T1:=(G 83 [l1,x3,0]-1)*65536) ⟨by omega,by omega⟩ (by rw[if_neg (by omega)]) (by rw[if_neg (by omega)]);refine⟨?_,?_,?_,trivial⟩<;>first|with_reducible exact e1|with_reducible exact e2|with_reducible exact e3
 refine aF yN (fun h6=>?_) (fun h6=>?_)
 rotate_left
 ·skip
  refine aU ?_
  unfold kA at h0;unfold kS at h1;unfold mA at h2;unfold oA at h3;unfold pM at h4;unfold pZ at h5;unfold yN at h6;unfold jW at hp;simp only[nn,List.cons_append,List.nil_append,Bool.or_eq_true,aR,ne_eq]at hp;exfalso;simp only[nn,List.cons_append,List.nil_append,Bool.or_eq_true,aR,ne_eq]at h0 h1 h2 h3 h4 h5 h6;generalize G 82 [l0,x3,0]=c0 at *;generalize G 82 [l0,x3,1]=c1 at *;generalize G 83 [l1,x3,0]=c2 at *;generalize G 82 [l2,x3,0]=c3 at *;generalize G 82 [l2,x3,1]=c4 at *;omega
 refine aF pP (fun h7=>?_) (fun h7=>?_)
 ·skip
  refine aU ?_
  unfold kA at h0;unfold kS at h1;unfold mA at h2;unfold oA at h3;unfold pM at h4;unfold pZ at h5;unfold yN at h6;unfold pP at h7;unfold jW at hp;simp only[nn,List.cons_append,List.nil_append,Bool.or_eq_true,aR,ne_eq]at hp;exfalso;simp only[nn,List.cons_append,List.nil_append,Bool.or_eq_true,aR,ne_eq]at h0 h1 h2 h3 h4 h5 h6 h7;generalize G 82 [l0,x3,0]=c0 at *;generalize G 82 [l0,x3,1]=c1 at *;generalize G 83 [l1,x3,0]=c2 at *;generalize G 82 [l2,x3,0]=c3 at *;generalize G 82 [l2,x3,1]=c4 at *;omega
 refine aH aTb ?_
 unfold kA at h0;unfold kS at h1;unfold mA at h2;unfold oA at h3;unfold pM at h4;unfold pZ at h5;unfold yN at h6;unfold pP at h7;unfold jW at hp;simp only[nn,List.cons_append,List.nil_append,Bool.or_eq_true,aR,ne_eq]at hp;unfold aLi;simp only[nn,List.cons_append,List.nil_append,Bool.or_eq_true,aR,ne_eq]at h0 h1 h2 h3 h4 h5 h6 h7;simp only[bI];refine⟨rfl,?_⟩;simp only[aJ];simp only[nn,List.cons_append,List.nil_append,Bool.or_eq_true,aR,ne_eq];obtain⟨e1,e2,e3⟩:=aGC (lo:=G 82 [l0,x3,0]) (hi:=G 82 [l0,x3,1]) (n:=G 83 [l1,x3,0]) (nE:=x2) (t0:=G 82 [l2,x3,0]) (t1:=G 82 [l2,x3,1]) (x:=x4) (T0:=G 82 [l2,x3,0]) (T1:=G 82 [l2,x3,1]) ⟨by omega,by omega⟩ (by rw[if_pos (by omega)]) (by rw[if_pos (by omega)]);refine⟨?_,?_,?_,trivial⟩<;>first|with_reducible exact e1|with_reducible exact e2|with_reducible exact e3
def aCz:Ctx→List SV→aM→Res (SV × aM):=eA GB [(0,8),(0,8),(0,8),(0,3),((-2147483648),2147483647)] 3 jW aSp
theorem aTM {X:Ctx} {ρ:Nat→Int} (hX:X.Ok ρ) (hG:X.G=G):eT Try.prog X ρ GB 26 aCz:=by
 obtain⟨XG,XI,XV,XF⟩:=X
 simp only at hG
 subst hG
 refine cU hX ?_
 intro xs ls hw hl hp
 obtain⟨x0,y0,e0,b0,h0⟩:=aY hw
 obtain⟨x1,y1,e1,b1,h1⟩:=aY h0
 obtain⟨x2,y2,e2,b2,h2⟩:=aY h1
 obtain⟨x3,y3,e3,b3,h3⟩:=aY h2
 obtain⟨x4,y4,e4,b4,h4⟩:=aY h3
 have e5:=kG h4
 subst e5 e4 e3 e2 e1 e0
 obtain⟨l0,z0,q0,hl0⟩:=bL hl
 obtain⟨l1,z1,q1,hl1⟩:=bL hl0
 obtain⟨l2,z2,q2,hl2⟩:=bL hl1
 have q3:=List.length_eq_zero_iff.1 hl2
 subst q3 q2 q1 q0
 exact aRA x0 x1 x2 x3 x4 l0 l1 l2 b0 b1 b2 b3 b4 hp
end Go.Proofs.Ytdldallkeheciaa
set_option maxRecDepth 100000
namespace Go.Proofs.Ytdldallkeheciaa
open Go Go.RowKit Sx Wi Lk
def aFe (P:Program) (fs:List B):Res SV:=aIo P fs
def aIe:List B:=[]
def dU:B:=(.cmp .lt (.lit 1) (.var 0))
def aJP:List B:=aI dU++aIe
def fA:B:=(.cmp .lt (.lit 2) (.var 0))
def aJ7:List B:=aI fA++aJP
def jE:B:=(.cmp .lt (.lit 3) (.var 0))
def aRq:List B:=aI jE++aJ7
def rB:B:=(.cmp .le (.lit (-9223372036854775808)) (.app 71 (.cons (.app 71 (.cons (.app 71 (.cons (.app 71 (.cons (.app 71 (.cons (.op .add (.op .mul (.var 4) (.op .mul (.lit 2) (.op .sub (.var 3) (.var 2)))) (.op .mul (.op .mul (.op .mul (.op .mul (.op .sub (.op .shl (.lit 1) (.var 1)) (.lit 1)) (.lit 65536)) (.lit 65536)) (.lit 65536)) (.lit 65536))) (.cons (.lit 65536) .nil))) (.cons (.lit 65536) .nil))) (.cons (.lit 65536) .nil))) (.cons (.lit 65536) .nil))) (.cons (.op .mul (.lit 2) (.op .sub (.op .shl (.lit 1) (.var 1)) (.lit 1))) .nil))))
def aSb:List B:=aI rB++aRq
def vH:B:=(.cmp .le (.app 71 (.cons (.app 71 (.cons (.app 71 (.cons (.app 71 (.cons (.app 71 (.cons (.op .add (.op .mul (.var 4) (.op .mul (.lit 2) (.op .sub (.var 3) (.var 2)))) (.op .mul (.op .mul (.op .mul (.op .mul (.op .sub (.op .shl (.lit 1) (.var 1)) (.lit 1)) (.lit 65536)) (.lit 65536)) (.lit 65536)) (.lit 65536))) (.cons (.lit 65536) .nil))) (.cons (.lit 65536) .nil))) (.cons (.lit 65536) .nil))) (.cons (.lit 65536) .nil))) (.cons (.op .mul (.lit 2) (.op .sub (.op .shl (.lit 1) (.var 1)) (.lit 1))) .nil))) (.lit 9223372036854775807))
def aRt:List B:=aI vH++aSb
def zA:B:=(.cmp .le (.lit (-9223372036854775808)) (.op .add (.var 2) (.app 71 (.cons (.app 71 (.cons (.app 71 (.cons (.app 71 (.cons (.app 71 (.cons (.op .add (.op .mul (.var 4) (.op .mul (.lit 2) (.op .sub (.var 3) (.var 2)))) (.op .mul (.op .mul (.op .mul (.op .mul (.op .sub (.op .shl (.lit 1) (.var 1)) (.lit 1)) (.lit 65536)) (.lit 65536)) (.lit 65536)) (.lit 65536))) (.cons (.lit 65536) .nil))) (.cons (.lit 65536) .nil))) (.cons (.lit 65536) .nil))) (.cons (.lit 65536) .nil))) (.cons (.op .mul (.lit 2) (.op .sub (.op .shl (.lit 1) (.var 1)) (.lit 1))) .nil)))))
def aTa:List B:=aI zA++aRt
def aBA:B:=(.cmp .le (.op .add (.var 2) (.app 71 (.cons (.app 71 (.cons (.app 71 (.cons (.app 71 (.cons (.app 71 (.cons (.op .add (.op .mul (.var 4) (.op .mul (.lit 2) (.op .sub (.var 3) (.var 2)))) (.op .mul (.op .mul (.op .mul (.op .mul (.op .sub (.op .shl (.lit 1) (.var 1)) (.lit 1)) (.lit 65536)) (.lit 65536)) (.lit 65536)) (.lit 65536))) (.cons (.lit 65536) .nil))) (.cons (.lit 65536) .nil))) (.cons (.lit 65536) .nil))) (.cons (.lit 65536) .nil))) (.cons (.op .mul (.lit 2) (.op .sub (.op .shl (.lit 1) (.var 1)) (.lit 1))) .nil)))) (.lit 9223372036854775807))
def aRZ:List B:=aI aBA++aTa
def aJV:SV:=(.tuple [(.agg [(.int .i64 (.op .max (.lit (-2147483648)) (.op .min (.lit 2147483647) (.op .add (.var 2) (.app 71 (.cons (.app 71 (.cons (.app 71 (.cons (.app 71 (.cons (.app 71 (.cons (.op .add (.op .mul (.var 4) (.op .mul (.lit 2) (.op .sub (.var 3) (.var 2)))) (.op .mul (.op .mul (.op .mul (.op .mul (.op .sub (.op .shl (.lit 1) (.var 1)) (.lit 1)) (.lit 65536)) (.lit 65536)) (.lit 65536)) (.lit 65536))) (.cons (.lit 65536) .nil))) (.cons (.lit 65536) .nil))) (.cons (.lit 65536) .nil))) (.cons (.lit 65536) .nil))) (.cons (.op .mul (.lit 2) (.op .sub (.op .shl (.lit 1) (.var 1)) (.lit 1))) .nil))))))),(.int .i64 (.app 68 (.cons (.var 0) (.cons (.var 1) (.cons (.var 2) (.cons (.var 3) (.cons (.var 4) .nil)))))))]),(.bool (.lit true))])
def aMS:List B:=aI (B.neg jE)++aJ7
def sH:B:=(.cmp .le (.lit (-9223372036854775808)) (.app 71 (.cons (.app 71 (.cons (.app 71 (.cons (.app 71 (.cons (.op .add (.op .mul (.var 4) (.op .mul (.lit 2) (.op .sub (.var 3) (.var 2)))) (.op .mul (.op .mul (.op .mul (.op .sub (.op .shl (.lit 1) (.var 1)) (.lit 1)) (.lit 65536)) (.lit 65536)) (.lit 65536))) (.cons (.lit 65536) .nil))) (.cons (.lit 65536) .nil))) (.cons (.lit 65536) .nil))) (.cons (.op .mul (.lit 2) (.op .sub (.op .shl (.lit 1) (.var 1)) (.lit 1))) .nil))))
def aOL:List B:=aI sH++aMS
def vB:B:=(.cmp .le (.app 71 (.cons (.app 71 (.cons (.app 71 (.cons (.app 71 (.cons (.op .add (.op .mul (.var 4) (.op .mul (.lit 2) (.op .sub (.var 3) (.var 2)))) (.op .mul (.op .mul (.op .mul (.op .sub (.op .shl (.lit 1) (.var 1)) (.lit 1)) (.lit 65536)) (.lit 65536)) (.lit 65536))) (.cons (.lit 65536) .nil))) (.cons (.lit 65536) .nil))) (.cons (.lit 65536) .nil))) (.cons (.op .mul (.lit 2) (.op .sub (.op .shl (.lit 1) (.var 1)) (.lit 1))) .nil))) (.lit 9223372036854775807))
def aNH:List B:=aI vB++aOL
def zI:B:=(.cmp .le (.lit (-9223372036854775808)) (.op .add (.var 2) (.app 71 (.cons (.app 71 (.cons (.app 71 (.cons (.app 71 (.cons (.op .add (.op .mul (.var 4) (.op .mul (.lit 2) (.op .sub (.var 3) (.var 2)))) (.op .mul (.op .mul (.op .mul (.op .sub (.op .shl (.lit 1) (.var 1)) (.lit 1)) (.lit 65536)) (.lit 65536)) (.lit 65536))) (.cons (.lit 65536) .nil))) (.cons (.lit 65536) .nil))) (.cons (.lit 65536) .nil))) (.cons (.op .mul (.lit 2) (.op .sub (.op .shl (.lit 1) (.var 1)) (.lit 1))) .nil)))))
def aOQ:List B:=aI zI++aNH
def xM:B:=(.cmp .le (.op .add (.var 2) (.app 71 (.cons (.app 71 (.cons (.app 71 (.cons (.app 71 (.cons (.op .add (.op .mul (.var 4) (.op .mul (.lit 2) (.op .sub (.var 3) (.var 2)))) (.op .mul (.op .mul (.op .mul (.op .sub (.op .shl (.lit 1) (.var 1)) (.lit 1)) (.lit 65536)) (.lit 65536)) (.lit 65536))) (.cons (.lit 65536) .nil))) (.cons (.lit 65536) .nil))) (.cons (.lit 65536) .nil))) (.cons (.op .mul (.lit 2) (.op .sub (.op .shl (.lit 1) (.var 1)) (.lit 1))) .nil)))) (.lit 9223372036854775807))
def aQf:List B:=aI xM++aOQ
def aKo:SV:=(.tuple [(.agg [(.int .i64 (.op .max (.lit (-2147483648)) (.op .min (.lit 2147483647) (.op .add (.var 2) (.app 71 (.cons (.app 71 (.cons (.app 71 (.cons (.app 71 (.cons (.op .add (.op .mul (.var 4) (.op .mul (.lit 2) (.op .sub (.var 3) (.var 2)))) (.op .mul (.op .mul (.op .mul (.op .sub (.op .shl (.lit 1) (.var 1)) (.lit 1)) (.lit 65536)) (.lit 65536)) (.lit 65536))) (.cons (.lit 65536) .nil))) (.cons (.lit 65536) .nil))) (.cons (.lit 65536) .nil))) (.cons (.op .mul (.lit 2) (.op .sub (.op .shl (.lit 1) (.var 1)) (.lit 1))) .nil))))))),(.int .i64 (.app 68 (.cons (.var 0) (.cons (.var 1) (.cons (.var 2) (.cons (.var 3) (.cons (.var 4) .nil)))))))]),(.bool (.lit true))])
def aMU:List B:=aI (B.neg fA)++aJP
def nM:B:=(.cmp .le (.lit (-9223372036854775808)) (.app 71 (.cons (.app 71 (.cons (.app 71 (.cons (.op .add (.op .mul (.var 4) (.op .mul (.lit 2) (.op .sub (.var 3) (.var 2)))) (.op .mul (.op .mul (.op .sub (.op .shl (.lit 1) (.var 1)) (.lit 1)) (.lit 65536)) (.lit 65536))) (.cons (.lit 65536) .nil))) (.cons (.lit 65536) .nil))) (.cons (.op .mul (.lit 2) (.op .sub (.op .shl (.lit 1) (.var 1)) (.lit 1))) .nil))))
def aLQ:List B:=aI nM++aMU
def qH:B:=(.cmp .le (.app 71 (.cons (.app 71 (.cons (.app 71 (.cons (.op .add (.op .mul (.var 4) (.op .mul (.lit 2) (.op .sub (.var 3) (.var 2)))) (.op .mul (.op .mul (.op .sub (.op .shl (.lit 1) (.var 1)) (.lit 1)) (.lit 65536)) (.lit 65536))) (.cons (.lit 65536) .nil))) (.cons (.lit 65536) .nil))) (.cons (.op .mul (.lit 2) (.op .sub (.op .shl (.lit 1) (.var 1)) (.lit 1))) .nil))) (.lit 9223372036854775807))
def aNT:List B:=aI qH++aLQ
def tW:B:=(.cmp .le (.lit (-9223372036854775808)) (.op .add (.var 2) (.app 71 (.cons (.app 71 (.cons (.app 71 (.cons (.op .add (.op .mul (.var 4) (.op .mul (.lit 2) (.op .sub (.var 3) (.var 2)))) (.op .mul (.op .mul (.op .sub (.op .shl (.lit 1) (.var 1)) (.lit 1)) (.lit 65536)) (.lit 65536))) (.cons (.lit 65536) .nil))) (.cons (.lit 65536) .nil))) (.cons (.op .mul (.lit 2) (.op .sub (.op .shl (.lit 1) (.var 1)) (.lit 1))) .nil)))))
def aL0:List B:=aI tW++aNT
def xK:B:=(.cmp .le (.op .add (.var 2) (.app 71 (.cons (.app 71 (.cons (.app 71 (.cons (.op .add (.op .mul (.var 4) (.op .mul (.lit 2) (.op .sub (.var 3) (.var 2)))) (.op .mul (.op .mul (.op .sub (.op .shl (.lit 1) (.var 1)) (.lit 1)) (.lit 65536)) (.lit 65536))) (.cons (.lit 65536) .nil))) (.cons (.lit 65536) .nil))) (.cons (.op .mul (.lit 2) (.op .sub (.op .shl (.lit 1) (.var 1)) (.lit 1))) .nil)))) (.lit 9223372036854775807))
def aO7:List B:=aI xK++aL0
def aLg:SV:=(.tuple [(.agg [(.int .i64 (.op .max (.lit (-2147483648)) (.op .min (.lit 2147483647) (.op .add (.var 2) (.app 71 (.cons (.app 71 (.cons (.app 71 (.cons (.op .add (.op .mul (.var 4) (.op .mul (.lit 2) (.op .sub (.var 3) (.var 2)))) (.op .mul (.op .mul (.op .sub (.op .shl (.lit 1) (.var 1)) (.lit 1)) (.lit 65536)) (.lit 65536))) (.cons (.lit 65536) .nil))) (.cons (.lit 65536) .nil))) (.cons (.op .mul (.lit 2) (.op .sub (.op .shl (.lit 1) (.var 1)) (.lit 1))) .nil))))))),(.int .i64 (.app 68 (.cons (.var 0) (.cons (.var 1) (.cons (.var 2) (.cons (.var 3) (.cons (.var 4) .nil)))))))]),(.bool (.lit true))])
def aOF:List B:=aI (B.neg dU)++aIe
def nV:B:=(.cmp .le (.lit (-9223372036854775808)) (.app 71 (.cons (.app 71 (.cons (.op .add (.op .mul (.var 4) (.op .mul (.lit 2) (.op .sub (.var 3) (.var 2)))) (.op .mul (.op .sub (.op .shl (.lit 1) (.var 1)) (.lit 1)) (.lit 65536))) (.cons (.lit 65536) .nil))) (.cons (.op .mul (.lit 2) (.op .sub (.op .shl (.lit 1) (.var 1)) (.lit 1))) .nil))))
def aOA:List B:=aI nV++aOF
def qR:B:=(.cmp .le (.app 71 (.cons (.app 71 (.cons (.op .add (.op .mul (.var 4) (.op .mul (.lit 2) (.op .sub (.var 3) (.var 2)))) (.op .mul (.op .sub (.op .shl (.lit 1) (.var 1)) (.lit 1)) (.lit 65536))) (.cons (.lit 65536) .nil))) (.cons (.op .mul (.lit 2) (.op .sub (.op .shl (.lit 1) (.var 1)) (.lit 1))) .nil))) (.lit 9223372036854775807))
def aP5:List B:=aI qR++aOA
def tN:B:=(.cmp .le (.lit (-9223372036854775808)) (.op .add (.var 2) (.app 71 (.cons (.app 71 (.cons (.op .add (.op .mul (.var 4) (.op .mul (.lit 2) (.op .sub (.var 3) (.var 2)))) (.op .mul (.op .sub (.op .shl (.lit 1) (.var 1)) (.lit 1)) (.lit 65536))) (.cons (.lit 65536) .nil))) (.cons (.op .mul (.lit 2) (.op .sub (.op .shl (.lit 1) (.var 1)) (.lit 1))) .nil)))))
def aPw:List B:=aI tN++aP5
def xB:B:=(.cmp .le (.op .add (.var 2) (.app 71 (.cons (.app 71 (.cons (.op .add (.op .mul (.var 4) (.op .mul (.lit 2) (.op .sub (.var 3) (.var 2)))) (.op .mul (.op .sub (.op .shl (.lit 1) (.var 1)) (.lit 1)) (.lit 65536))) (.cons (.lit 65536) .nil))) (.cons (.op .mul (.lit 2) (.op .sub (.op .shl (.lit 1) (.var 1)) (.lit 1))) .nil)))) (.lit 9223372036854775807))
def aO0:List B:=aI xB++aPw
def aKW:SV:=(.tuple [(.agg [(.int .i64 (.op .max (.lit (-2147483648)) (.op .min (.lit 2147483647) (.op .add (.var 2) (.app 71 (.cons (.app 71 (.cons (.op .add (.op .mul (.var 4) (.op .mul (.lit 2) (.op .sub (.var 3) (.var 2)))) (.op .mul (.op .sub (.op .shl (.lit 1) (.var 1)) (.lit 1)) (.lit 65536))) (.cons (.lit 65536) .nil))) (.cons (.op .mul (.lit 2) (.op .sub (.op .shl (.lit 1) (.var 1)) (.lit 1))) .nil))))))),(.int .i64 (.app 68 (.cons (.var 0) (.cons (.var 1) (.cons (.var 2) (.cons (.var 3) (.cons (.var 4) .nil)))))))]),(.bool (.lit true))])
theorem aRu:aFe Try.prog aRZ = .ok aJV:=by kernel_rfl
theorem aMi:aFe Try.prog aQf = .ok aKo:=by kernel_rfl
theorem aQw:aFe Try.prog aO7 = .ok aLg:=by kernel_rfl
theorem aN2:aFe Try.prog aO0 = .ok aKW:=by kernel_rfl
end Go.Proofs.Ytdldallkeheciaa
