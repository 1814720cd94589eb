/- What is proved: what some functions leave: the states. No condition but the numbers' own bounds. -/
import Derived.Test.YtdldallkeheciaaQa1
import Derived.Test.YtdldallkeheciaaQg4
import Derived.Test.YtdldallkeheciaaProg
import Derived.Test.YtdldallkeheciaaQNn
import Derived.Test.YtdldallkeheciaaQa5
set_option linter.unusedSimpArgs false
set_option linter.unusedVariables false
namespace Go.Proofs.Ytdldallkeheciaa
open Go Go.RowKit Sx Wi Lk
def aXg:B:=(.lit true)
def aUB:FunS:=⟨[(.own 0 (.var 0) none),(.int .i64 (.var 1)),(.int .i64 (.var 2))],[some ([.vec [.int .u8] (.var 3) (.var 0) true],aF)],aXg,(.tuple [(.int .u32 (.app 67 (.cons (.var 3) (.cons (.var 0) (.cons (.var 1) (.cons (.var 2) .nil)))))),(.int .i64 (.app 69 (.cons (.var 0) (.cons (.var 1) (.cons (.var 2) .nil)))))]),[some ([.vec [.int .u8] (.var 3) (.var 0) true],aF)],(.tuple [(.int .u32 (.app 67 (.cons (.var 3) (.cons (.var 0) (.cons (.var 1) (.cons (.var 2) .nil)))))),(.int .i64 (.app 69 (.cons (.var 0) (.cons (.var 1) (.cons (.var 2) .nil)))))]),[some ([.vec [.int .u8] (.var 3) (.var 0) true],aF)]⟩
def aM4 (P:Program) (fs:List B):Res SV:=cB G GI [(0,70000),(0,1099511627776),(1,16)] fs fun X=>gJ P X GB gN dQ 4000 20 aUB
def aXb:B:=(.lit true)
def aVG:FunS:=⟨[(.agg [.any,(.own 0 (.var 0) none),.any,(.own 1 (.var 1) none),.any,(.own 2 (.var 2) none),.any,.any,.any,.any,.any,.any,.any,.any]),(.int .i64 (.var 3)),(.int .i32 (.var 4))],[some ([.vec [.int .i32,.int .i32] (.var 5) (.var 0) true],aF),some ([.vec [.int .i64] (.var 6) (.var 1) true],aF),some ([.vec [.int .i32,.int .i32] (.var 7) (.var 2) true],aF)],aXb,(.agg [(.int .i64 (.app 60 (.cons (.app 82 (.cons (.var 5) (.cons (.var 3) (.cons (.lit 0) .nil)))) (.cons (.app 82 (.cons (.var 5) (.cons (.var 3) (.cons (.lit 1) .nil)))) (.cons (.app 83 (.cons (.var 6) (.cons (.var 3) (.cons (.lit 0) .nil)))) (.cons (.var 2) (.cons (.app 82 (.cons (.var 7) (.cons (.var 3) (.cons (.lit 0) .nil)))) (.cons (.app 82 (.cons (.var 7) (.cons (.var 3) (.cons (.lit 1) .nil)))) (.cons (.var 4) .nil))))))))),(.int .i64 (.app 61 (.cons (.app 82 (.cons (.var 5) (.cons (.var 3) (.cons (.lit 0) .nil)))) (.cons (.app 82 (.cons (.var 5) (.cons (.var 3) (.cons (.lit 1) .nil)))) (.cons (.app 83 (.cons (.var 6) (.cons (.var 3) (.cons (.lit 0) .nil)))) (.cons (.var 2) (.cons (.app 82 (.cons (.var 7) (.cons (.var 3) (.cons (.lit 0) .nil)))) (.cons (.app 82 (.cons (.var 7) (.cons (.var 3) (.cons (.lit 1) .nil)))) (.cons (.var 4) .nil))))))))),(.int .i64 (.app 62 (.cons (.app 82 (.cons (.var 5) (.cons (.var 3) (.cons (.lit 0) .nil)))) (.cons (.app 82 (.cons (.var 5) (.cons (.var 3) (.cons (.lit 1) .nil)))) (.cons (.app 83 (.cons (.var 6) (.cons (.var 3) (.cons (.lit 0) .nil)))) (.cons (.var 2) (.cons (.app 82 (.cons (.var 7) (.cons (.var 3) (.cons (.lit 0) .nil)))) (.cons (.app 82 (.cons (.var 7) (.cons (.var 3) (.cons (.lit 1) .nil)))) (.cons (.var 4) .nil)))))))))]),[some ([.vec [.int .i32,.int .i32] (.var 5) (.var 0) true],aF),some ([.vec [.int .i64] (.var 6) (.var 1) true],aF),some ([.vec [.int .i32,.int .i32] (.var 7) (.var 2) true],aF)],(.agg [(.int .i64 (.app 60 (.cons (.app 82 (.cons (.var 5) (.cons (.var 3) (.cons (.lit 0) .nil)))) (.cons (.app 82 (.cons (.var 5) (.cons (.var 3) (.cons (.lit 1) .nil)))) (.cons (.app 83 (.cons (.var 6) (.cons (.var 3) (.cons (.lit 0) .nil)))) (.cons (.var 2) (.cons (.app 82 (.cons (.var 7) (.cons (.var 3) (.cons (.lit 0) .nil)))) (.cons (.app 82 (.cons (.var 7) (.cons (.var 3) (.cons (.lit 1) .nil)))) (.cons (.var 4) .nil))))))))),(.int .i64 (.app 61 (.cons (.app 82 (.cons (.var 5) (.cons (.var 3) (.cons (.lit 0) .nil)))) (.cons (.app 82 (.cons (.var 5) (.cons (.var 3) (.cons (.lit 1) .nil)))) (.cons (.app 83 (.cons (.var 6) (.cons (.var 3) (.cons (.lit 0) .nil)))) (.cons (.var 2) (.cons (.app 82 (.cons (.var 7) (.cons (.var 3) (.cons (.lit 0) .nil)))) (.cons (.app 82 (.cons (.var 7) (.cons (.var 3) (.cons (.lit 1) .nil)))) (.cons (.var 4) .nil))))))))),(.int .i64 (.app 62 (.cons (.app 82 (.cons (.var 5) (.cons (.var 3) (.cons (.lit 0) .nil)))) (.cons (.app 82 (.cons (.var 5) (.cons (.var 3) (.cons (.lit 1) .nil)))) (.cons (.app 83 (.cons (.var 6) (.cons (.var 3) (.cons (.lit 0) .nil)))) (.cons (.var 2) (.cons (.app 82 (.cons (.var 7) (.cons (.var 3) (.cons (.lit 0) .nil)))) (.cons (.app 82 (.cons (.var 7) (.cons (.var 3) (.cons (.lit 1) .nil)))) (.cons (.var 4) .nil)))))))))]),[some ([.vec [.int .i32,.int .i32] (.var 5) (.var 0) true],aF),some ([.vec [.int .i64] (.var 6) (.var 1) true],aF),some ([.vec [.int .i32,.int .i32] (.var 7) (.var 2) true],aF)]⟩
def aNw (P:Program) (fs:List B):Res SV:=cB G GI [(0,8),(0,8),(0,8),(0,3),((-2147483648),2147483647)] fs fun X=>gJ P X GB gN dQ 4000 26 aVG
def aW8:B:=(.lit true)
def aV1:FunS:=⟨[(.agg [.any,.any,.any,(.own 0 (.var 0) none),(.int .i64 (.var 1)),.any,.any,.any,.any,.any,.any,.any,.any,.any]),(.agg [(.int .i32 (.var 2)),(.int .i32 (.var 3))]),(.agg [(.int .i64 (.app 0 (.cons (.var 4) .nil))),(.int .u64 (.app 1 (.cons (.var 4) .nil)))])],[some ([.vec [.int .i64] (.var 5) (.var 0) true],aF)],aW8,(.int .i32 (.app 68 (.cons (.var 0) (.cons (.var 1) (.cons (.var 2) (.cons (.var 3) (.cons (.var 4) .nil))))))),[some ([.vec [.int .i64] (.var 5) (.var 0) true],aF)],(.int .i32 (.app 68 (.cons (.var 0) (.cons (.var 1) (.cons (.var 2) (.cons (.var 3) (.cons (.var 4) .nil))))))),[some ([.vec [.int .i64] (.var 5) (.var 0) true],aF)]⟩
def aKI (P:Program) (fs:List B):Res SV:=cB G GI [(1,4),(1,16),((-2147483648),2147483647),((-2147483648),2147483647),(0,19342813113834066795298816)] fs fun X=>gJ P X GB gN dQ 4000 32 aV1
end Go.Proofs.Ytdldallkeheciaa
set_option maxRecDepth 100000
namespace Go.Proofs.Ytdldallkeheciaa
open Go Go.RowKit Sx Wi Lk
def aH4 (P:Program) (fs:List B):Res SV:=aM4 P fs
def aNh:List B:=[]
def iM:B:=(.cmp .le (.var 1) (.op .sub (.op .mul (.lit 8) (.var 0)) (.var 2)))
def aUf:List B:=aJ iM++aNh
def kK:B:=(.cmp .le (.op .quo (.var 1) (.lit 8)) (.op .quo (.op .sub (.op .add (.op .add (.var 1) (.var 2)) (.lit 8)) (.lit 1)) (.lit 8)))
def aT9:List B:=aJ kK++aUf
def lR:B:=(.cmp .le (.op .quo (.op .sub (.op .add (.op .add (.var 1) (.var 2)) (.lit 8)) (.lit 1)) (.lit 8)) (.var 0))
def aVK:List B:=aJ lR++aT9
def mO:B:=(.cmp .lt (.lit 0) (.op .sub (.op .quo (.op .sub (.op .add (.op .add (.var 1) (.var 2)) (.lit 8)) (.lit 1)) (.lit 8)) (.op .quo (.var 1) (.lit 8))))
def aTV:List B:=aJ mO++aVK
def oU:B:=(.cmp .lt (.op .quo (.var 1) (.lit 8)) (.var 0))
def aKL:List B:=aJ oU++aTV
def oJ:B:=(.cmp .lt (.lit 1) (.op .sub (.op .quo (.op .sub (.op .add (.op .add (.var 1) (.var 2)) (.lit 8)) (.lit 1)) (.lit 8)) (.op .quo (.var 1) (.lit 8))))
def aUc:List B:=aJ oJ++aKL
def rS:B:=(.cmp .lt (.op .add (.op .quo (.var 1) (.lit 8)) (.lit 1)) (.var 0))
def aKG:List B:=aJ rS++aUc
def rX:B:=(.cmp .lt (.lit 2) (.op .sub (.op .quo (.op .sub (.op .add (.op .add (.var 1) (.var 2)) (.lit 8)) (.lit 1)) (.lit 8)) (.op .quo (.var 1) (.lit 8))))
def aUV:List B:=aJ rX++aKG
def aAn:B:=(.cmp .lt (.op .add (.op .quo (.var 1) (.lit 8)) (.lit 2)) (.var 0))
def aT3:List B:=aJ aAn++aUV
def aC7:B:=(.cmp .le (.op .sub (.op .quo (.op .sub (.op .add (.op .add (.var 1) (.var 2)) (.lit 8)) (.lit 1)) (.lit 8)) (.op .quo (.var 1) (.lit 8))) (.lit 3))
def aRG:List B:=aJ aC7++aT3
def aK3:SV:=(.tuple [(.agg [(.int .i64 (.bit .and .u64 (.op .fdiv (.bit .or .u64 (.wrap .u64 (.op .mul (.bit .or .u64 (.wrap .u64 (.op .mul (.bit .or .u64 (.lit 0) (.app 84 (.cons (.var 3) (.cons (.op .quo (.var 1) (.lit 8)) (.cons (.lit 0) .nil))))) (.lit 256))) (.app 84 (.cons (.var 3) (.cons (.op .add (.op .quo (.var 1) (.lit 8)) (.lit 1)) (.cons (.lit 0) .nil))))) (.lit 256))) (.app 84 (.cons (.var 3) (.cons (.op .add (.op .quo (.var 1) (.lit 8)) (.lit 2)) (.cons (.lit 0) .nil))))) (.op .shl (.lit 1) (.bit .and .i64 (.op .sub (.lit 0) (.op .add (.var 1) (.var 2))) (.lit 7)))) (.op .sub (.op .shl (.lit 1) (.var 2)) (.lit 1)))),(.int .i64 (.app 67 (.cons (.var 3) (.cons (.var 0) (.cons (.var 1) (.cons (.var 2) .nil)))))),(.int .i64 (.lit 0)),(.int .i64 (.app 69 (.cons (.var 0) (.cons (.var 1) (.cons (.var 2) .nil)))))]),(.bool (.lit true))])
def aOE:List B:=aJ (B.neg rX)++aKG
def aKQ:SV:=(.tuple [(.agg [(.int .i64 (.bit .and .u64 (.op .fdiv (.bit .or .u64 (.wrap .u64 (.op .mul (.bit .or .u64 (.lit 0) (.app 84 (.cons (.var 3) (.cons (.op .quo (.var 1) (.lit 8)) (.cons (.lit 0) .nil))))) (.lit 256))) (.app 84 (.cons (.var 3) (.cons (.op .add (.op .quo (.var 1) (.lit 8)) (.lit 1)) (.cons (.lit 0) .nil))))) (.op .shl (.lit 1) (.bit .and .i64 (.op .sub (.lit 0) (.op .add (.var 1) (.var 2))) (.lit 7)))) (.op .sub (.op .shl (.lit 1) (.var 2)) (.lit 1)))),(.int .i64 (.app 67 (.cons (.var 3) (.cons (.var 0) (.cons (.var 1) (.cons (.var 2) .nil)))))),(.int .i64 (.lit 0)),(.int .i64 (.app 69 (.cons (.var 0) (.cons (.var 1) (.cons (.var 2) .nil)))))]),(.bool (.lit true))])
def aRK:List B:=aJ (B.neg oJ)++aKL
def aLT:SV:=(.tuple [(.agg [(.int .i64 (.bit .and .u64 (.op .fdiv (.bit .or .u64 (.lit 0) (.app 84 (.cons (.var 3) (.cons (.op .quo (.var 1) (.lit 8)) (.cons (.lit 0) .nil))))) (.op .shl (.lit 1) (.bit .and .i64 (.op .sub (.lit 0) (.op .add (.var 1) (.var 2))) (.lit 7)))) (.op .sub (.op .shl (.lit 1) (.var 2)) (.lit 1)))),(.int .i64 (.app 67 (.cons (.var 3) (.cons (.var 0) (.cons (.var 1) (.cons (.var 2) .nil)))))),(.int .i64 (.lit 0)),(.int .i64 (.app 69 (.cons (.var 0) (.cons (.var 1) (.cons (.var 2) .nil)))))]),(.bool (.lit true))])
def aNQ:List B:=aJ (B.neg iM)++aNh
theorem aSW:aH4 Try.prog aRG = .ok aK3:=by kernel_rfl
theorem aOP:aH4 Try.prog aOE = .ok aKQ:=by kernel_rfl
theorem aQ4:aH4 Try.prog aRK = .ok aLT:=by kernel_rfl
theorem aND:aH4 Try.prog aNQ = .ok (.tuple [(.agg [(.int .i64 (.lit 0)),(.int .i64 (.app 67 (.cons (.var 3) (.cons (.var 0) (.cons (.var 1) (.cons (.var 2) .nil)))))),(.int .i64 (.lit 5)),(.int .i64 (.app 69 (.cons (.var 0) (.cons (.var 1) (.cons (.var 2) .nil)))))]),(.bool (.lit true))]):=by kernel_rfl
end Go.Proofs.Ytdldallkeheciaa
namespace Go.Proofs.Ytdldallkeheciaa
open Go Go.RowKit Sx Wi Lk
set_option maxHeartbeats 8000000 in
set_option maxRecDepth 100000 in
theorem aUx (x0 x1 x2 l0:Int) (b0:0≤x0∧x0≤70000) (b1:0≤x1∧x1≤1099511627776) (b2:1≤x2∧x2≤16):gD Try.prog G GB 20 aUB (cR ([x0,x1,x2]++[l0])):=by
 refine cX (lp:=dQ) (run:=aM4 Try.prog) (fun _=>rfl) fits (bP (xs:=[x0,x1,x2]) (ls:=[l0]) (by exact⟨b0,b1,b2,trivial⟩)) eS (fun X hX hG=>dA hX hG) (fun X hX hG fn c hf hc=>cG) rfl ?_
 refine aG iM (fun h0=>?_) (fun h0=>?_)
 rotate_left
 ·skip
  refine aH aND ?_
  unfold iM at h0;simp only[nn,List.cons_append,List.nil_append,Bool.or_eq_true,aP,ne_eq]at h0;simp only[bK];refine⟨rfl,?_⟩;simp only[aI];simp only[nn,List.cons_append,List.nil_append,Bool.or_eq_true,aP,ne_eq];obtain⟨e1,e2⟩:=aUg (B:=l0) (nB:=x0) (a:=x1) (n:=x2) (by omega);exact⟨e1,e2,trivial⟩
 refine aG kK (fun h1=>?_) (fun h1=>?_)
 rotate_left
 ·skip
  refine aQ ?_
  unfold iM at h0;unfold kK at h1;simp only[nn,List.cons_append,List.nil_append,Bool.or_eq_true,aP,ne_eq]at h0 h1;have q1:=Int.tdiv_eq_ediv_of_nonneg (b:=8) b1.1;have q2:=Int.tdiv_eq_ediv_of_nonneg (b:=8) (show 0≤x1+x2+8-1 by omega);simp only[q1,q2]at *;exfalso;omega
 refine aG lR (fun h2=>?_) (fun h2=>?_)
 rotate_left
 ·skip
  refine aQ ?_
  unfold iM at h0;unfold kK at h1;unfold lR at h2;simp only[nn,List.cons_append,List.nil_append,Bool.or_eq_true,aP,ne_eq]at h0 h1 h2;have q1:=Int.tdiv_eq_ediv_of_nonneg (b:=8) b1.1;have q2:=Int.tdiv_eq_ediv_of_nonneg (b:=8) (show 0≤x1+x2+8-1 by omega);simp only[q1,q2]at *;exfalso;omega
 refine aG mO (fun h3=>?_) (fun h3=>?_)
 rotate_left
 ·skip
  refine aQ ?_
  unfold iM at h0;unfold kK at h1;unfold lR at h2;unfold mO at h3;simp only[nn,List.cons_append,List.nil_append,Bool.or_eq_true,aP,ne_eq]at h0 h1 h2 h3;have q1:=Int.tdiv_eq_ediv_of_nonneg (b:=8) b1.1;have q2:=Int.tdiv_eq_ediv_of_nonneg (b:=8) (show 0≤x1+x2+8-1 by omega);simp only[q1,q2]at *;exfalso;omega
 refine aG oU (fun h4=>?_) (fun h4=>?_)
 rotate_left
 ·skip
  refine aQ ?_
  unfold iM at h0;unfold kK at h1;unfold lR at h2;unfold mO at h3;unfold oU at h4;simp only[nn,List.cons_append,List.nil_append,Bool.or_eq_true,aP,ne_eq]at h0 h1 h2 h3 h4;have q1:=Int.tdiv_eq_ediv_of_nonneg (b:=8) b1.1;have q2:=Int.tdiv_eq_ediv_of_nonneg (b:=8) (show 0≤x1+x2+8-1 by omega);simp only[q1,q2]at *;exfalso;omega
 refine aG oJ (fun h5=>?_) (fun h5=>?_)
 rotate_left
 ·skip
  refine aH aQ4 ?_
  unfold iM at h0;unfold kK at h1;unfold lR at h2;unfold mO at h3;unfold oU at h4;unfold oJ at h5;unfold aLT;simp only[nn,List.cons_append,List.nil_append,Bool.or_eq_true,aP,ne_eq]at h0 h1 h2 h3 h4 h5;simp only[bK];refine⟨rfl,?_⟩;simp only[aI];simp only[nn,List.cons_append,List.nil_append,Bool.or_eq_true,aP,ne_eq];have e1:=aWV (B:=l0) (nB:=x0) (a:=x1) (n:=x2) b1.1 b2 (by omega) (by omega);have e2:=aDb (nB:=x0) (a:=x1) (n:=x2) (by omega);refine⟨?_,?_,trivial⟩<;>first|with_reducible exact e2|with_reducible exact e1
 refine aG rS (fun h6=>?_) (fun h6=>?_)
 rotate_left
 ·skip
  refine aQ ?_
  unfold iM at h0;unfold kK at h1;unfold lR at h2;unfold mO at h3;unfold oU at h4;unfold oJ at h5;unfold rS at h6;simp only[nn,List.cons_append,List.nil_append,Bool.or_eq_true,aP,ne_eq]at h0 h1 h2 h3 h4 h5 h6;have q1:=Int.tdiv_eq_ediv_of_nonneg (b:=8) b1.1;have q2:=Int.tdiv_eq_ediv_of_nonneg (b:=8) (show 0≤x1+x2+8-1 by omega);simp only[q1,q2]at *;exfalso;omega
 refine aG rX (fun h7=>?_) (fun h7=>?_)
 rotate_left
 ·skip
  refine aH aOP ?_
  unfold iM at h0;unfold kK at h1;unfold lR at h2;unfold mO at h3;unfold oU at h4;unfold oJ at h5;unfold rS at h6;unfold rX at h7;unfold aKQ;simp only[nn,List.cons_append,List.nil_append,Bool.or_eq_true,aP,ne_eq]at h0 h1 h2 h3 h4 h5 h6 h7;simp only[bK];refine⟨rfl,?_⟩;simp only[aI];simp only[nn,List.cons_append,List.nil_append,Bool.or_eq_true,aP,ne_eq];have e1:=aWU (B:=l0) (nB:=x0) (a:=x1) (n:=x2) b1.1 b2 (by omega) (by omega);have e2:=aDb (nB:=x0) (a:=x1) (n:=x2) (by omega);refine⟨?_,?_,trivial⟩<;>first|with_reducible exact e2|with_reducible exact e1
 refine aG aAn (fun h8=>?_) (fun h8=>?_)
 rotate_left
 ·skip
  refine aQ ?_
  unfold iM at h0;unfold kK at h1;unfold lR at h2;unfold mO at h3;unfold oU at h4;unfold oJ at h5;unfold rS at h6;unfold rX at h7;unfold aAn at h8;simp only[nn,List.cons_append,List.nil_append,Bool.or_eq_true,aP,ne_eq]at h0 h1 h2 h3 h4 h5 h6 h7 h8;have q1:=Int.tdiv_eq_ediv_of_nonneg (b:=8) b1.1;have q2:=Int.tdiv_eq_ediv_of_nonneg (b:=8) (show 0≤x1+x2+8-1 by omega);simp only[q1,q2]at *;exfalso;omega
 refine aG aC7 (fun h9=>?_) (fun h9=>?_)
 ·skip
  refine aH aSW ?_
  unfold iM at h0;unfold kK at h1;unfold lR at h2;unfold mO at h3;unfold oU at h4;unfold oJ at h5;unfold rS at h6;unfold rX at h7;unfold aAn at h8;unfold aC7 at h9;unfold aK3;simp only[nn,List.cons_append,List.nil_append,Bool.or_eq_true,aP,ne_eq]at h0 h1 h2 h3 h4 h5 h6 h7 h8 h9;simp only[bK];refine⟨rfl,?_⟩;simp only[aI];simp only[nn,List.cons_append,List.nil_append,Bool.or_eq_true,aP,ne_eq];have e1:=aWT (B:=l0) (nB:=x0) (a:=x1) (n:=x2) b1.1 b2 (by omega) (by omega);have e2:=aDb (nB:=x0) (a:=x1) (n:=x2) (by omega);refine⟨?_,?_,trivial⟩<;>first|with_reducible exact e2|with_reducible exact e1
 refine aQ ?_
 unfold iM at h0;unfold kK at h1;unfold lR at h2;unfold mO at h3;unfold oU at h4;unfold oJ at h5;unfold rS at h6;unfold rX at h7;unfold aAn at h8;unfold aC7 at h9;simp only[nn,List.cons_append,List.nil_append,Bool.or_eq_true,aP,ne_eq]at h0 h1 h2 h3 h4 h5 h6 h7 h8 h9;have q1:=Int.tdiv_eq_ediv_of_nonneg (b:=8) b1.1;have q2:=Int.tdiv_eq_ediv_of_nonneg (b:=8) (show 0≤x1+x2+8-1 by omega);simp only[q1,q2]at *;exfalso;omega
def zJ:Ctx→List SV→aM→Res (SV × aM):=dZ GB [(0,70000),(0,1099511627776),(1,16)] 1 (.lit true) aUB
theorem aS6 {X:Ctx} {ρ:Nat→Int} (hX:X.Ok ρ) (hG:X.G=G):eU Try.prog X ρ GB 20 zJ:=by
 obtain⟨XG,XI,XV,XF⟩:=X
 simp only at hG
 subst hG
 refine cU hX ?_
 intro xs ls hw hl hp
 obtain⟨x0,y0,e0,b0,h0⟩:=aY hw
 obtain⟨x1,y1,e1,b1,h1⟩:=aY h0
 obtain⟨x2,y2,e2,b2,h2⟩:=aY h1
 have e3:=jS h2
 subst e3 e2 e1 e0
 obtain⟨l0,z0,q0,hl0⟩:=bJ hl
 have q1:=List.length_eq_zero_iff.1 hl0
 subst q1 q0
 exact aUx x0 x1 x2 l0 b0 b1 b2
theorem aGd {n d k:Int} (hd:1≤d) (h:n<(k+1)*d):fq n d≤k:=by
 unfold fq;rw[if_pos hd,Int.fdiv_eq_ediv_of_nonneg _ (by omega)]
 have:=(Int.ediv_lt_iff_lt_mul (show 0<d by omega)).2 h
 omega
theorem aGM {n d k:Int} (hd:1≤d) (h:k*d≤n):k≤fq n d:=by
 unfold fq;rw[if_pos hd,Int.fdiv_eq_ediv_of_nonneg _ (by omega)]
 exact(Int.le_ediv_iff_mul_le (show 0<d by omega)).2 h
theorem aCi {c:Int}:∀ {m:Nat} {n:Int},n≤c*65536 ^ m→fqN m n≤c
 |0,n,h=>by simpa [fqN]using h
 |m+1,n,h=>by
  show fqN m (fq n 65536)≤c
  refine aCi (aGd (by decide) ?_)
  rw[Int.pow_succ,←Int.mul_assoc]at h
  omega
theorem aC6 {c:Int}:∀ {m:Nat} {n:Int},c*65536 ^ m≤n→c≤fqN m n
 |0,n,h=>by simpa [fqN]using h
 |m+1,n,h=>by
  show c≤fqN m (fq n 65536)
  refine aC6 (aGM (by decide) ?_)
  rw[Int.pow_succ,←Int.mul_assoc]at h
  exact h
theorem aUK {g d s M:Int} {m:Nat} (hg:1≤g) (hd : -4294967296≤d∧d≤4294967296) (hM:M=65536 ^ m) (h0:0≤s) (h1:s≤g*M) : -8589934593≤fq (fqN m (s*(2*d)+g*M)) (2*g)∧fq (fqN m (s*(2*d)+g*M)) (2*g)≤8589934593:=by
 have e1:s*(2*d)≤g*M*8589934592:=by
  have a:=Int.mul_le_mul_of_nonneg_left (show 2*d≤8589934592 by omega) h0
  have b:=Int.mul_le_mul_of_nonneg_right h1 (show (0:Int)≤8589934592 by decide)
  omega
 have e2:g*M*(-8589934592)≤s*(2*d):=by
  have a:=Int.mul_le_mul_of_nonneg_left (show -8589934592≤2*d by omega) h0
  have b:=Int.mul_le_mul_of_nonneg_right h1 (show (0:Int)≤8589934592 by decide)
  omega
 subst hM
 have p:(0:Int)<65536 ^ m:=Int.pow_pos (by decide)
 have u:fqN m (s*(2*d)+g*65536 ^ m)≤g*8589934593:=by
  refine aCi ?_
  have:g*8589934593*65536 ^ m=g*65536 ^ m*8589934593:=by grind
  omega
 have l:g*(-8589934593)≤fqN m (s*(2*d)+g*65536 ^ m):=by
  refine aC6 ?_
  have:g*(-8589934593)*65536 ^ m=g*65536 ^ m*(-8589934593):=by grind
  have q:0<g*65536 ^ m:=Int.mul_pos (by omega) p
  omega
 refine⟨aGM (by omega) (by omega),aGd (by omega) (by omega)⟩
section
variable {b lo hi s P:Int}
theorem aH7 (hP:P=1*2 ^ b.toNat):max (-2147483648) (min 2147483647 (lo+fq (fq (s*(2*(hi-lo))+(P-1)*65536) 65536) (2*(P-1))))=wU 1 b lo hi s:=by
 subst hP
 rw[iE]
 show _=Fx.sat (lo+fq (fq (s*(2*(hi-lo))+(2 ^ b.toNat-1)*65536) 65536) (2*(2 ^ b.toNat-1)))
 rw[Int.one_mul]
theorem aHR (hP:P=1*2 ^ b.toNat):max (-2147483648) (min 2147483647 (lo+fq (fq (fq (s*(2*(hi-lo))+(P-1)*65536*65536) 65536) 65536) (2*(P-1))))=wU 2 b lo hi s:=by
 subst hP
 rw[iE]
 show _=Fx.sat (lo+fq (fq (fq (s*(2*(hi-lo))+(2 ^ b.toNat-1)*4294967296) 65536) 65536) (2*(2 ^ b.toNat-1)))
 rw[Int.one_mul,Int.mul_assoc _ (65536:Int)];rfl
theorem aGJ (hP:P=1*2 ^ b.toNat):max (-2147483648) (min 2147483647 (lo+fq (fq (fq (fq (s*(2*(hi-lo))+(P-1)*65536*65536*65536) 65536) 65536) 65536) (2*(P-1))))=wU 3 b lo hi s:=by
 subst hP
 rw[iE]
 show _=Fx.sat (lo+fq (fq (fq (fq (s*(2*(hi-lo))+(2 ^ b.toNat-1)*281474976710656) 65536) 65536) 65536) (2*(2 ^ b.toNat-1)))
 rw[Int.one_mul,show (2 ^ b.toNat-1:Int)*65536*65536*65536=(2 ^ b.toNat-1)*281474976710656 by omega]
theorem aGV (hP:P=1*2 ^ b.toNat):max (-2147483648) (min 2147483647 (lo+fq (fq (fq (fq (fq (s*(2*(hi-lo))+(P-1)*65536*65536*65536*65536) 65536) 65536) 65536) 65536) (2*(P-1))))=wU 4 b lo hi s:=by
 subst hP
 rw[iE]
 show _=Fx.sat (lo+fq (fq (fq (fq (fq (s*(2*(hi-lo))+(2 ^ b.toNat-1)*18446744073709551616) 65536) 65536) 65536) 65536) (2*(2 ^ b.toNat-1)))
 rw[Int.one_mul,show (2 ^ b.toNat-1:Int)*65536*65536*65536*65536=(2 ^ b.toNat-1)*18446744073709551616 by omega]
end
theorem fC {b:Int} (h:1≤b∧b≤16):(2:Int)≤1*2 ^ b.toNat∧(1:Int)*2 ^ b.toNat≤65536:=by
 obtain⟨n,rfl⟩:=Int.eq_ofNat_of_zero_le (show 0≤b by omega)
 have h1:2 ^ 1≤2 ^ n:=Nat.pow_le_pow_right (by decide) (by omega)
 have h2:2 ^ n≤2 ^ 16:=Nat.pow_le_pow_right (by decide) (by omega)
 have c:((2 ^ n:Nat):Int)=2 ^ n:=by rw[Int.natCast_pow];rfl
 rw[Int.toNat_natCast,Int.one_mul,←c]
 omega
theorem bM {P lo hi s:Int} (m:Nat) (M:Int) (hM:M=65536 ^ m) (hP:2≤P) (hlo : -2147483648≤lo∧lo≤2147483647) (hhi : -2147483648≤hi∧hi≤2147483647) (h0:0≤s) (h1:s≤(P-1)*(1*M)):
  -8589934593≤fq (fqN m (s*(2*(hi-lo))+(P-1)*M)) (2*(P-1))∧fq (fqN m (s*(2*(hi-lo))+(P-1)*M)) (2*(P-1))≤8589934593:=
 aUK (by omega) (by omega) hM h0 (by rwa [Int.one_mul]at h1)
theorem aGa {lo hi n nE t0 t1 x T0 T1:Int} (hn:1≤n∧n≤256) (h0:T0=if 0<nE then t0 else 0) (h1:T1=if 0<nE then t1 else (n-1)*65536):
  max 0 (min (Int.tdiv (min (max (G 4 [min (max x lo) hi,lo,hi,T0,T1]) 0) ((n-1)*65536)) 65536) (n-2))=G 60 [lo,hi,n,nE,t0,t1,x]∧
  min (max 0 (min (Int.tdiv (min (max (G 4 [min (max x lo) hi,lo,hi,T0,T1]) 0) ((n-1)*65536)) 65536) (n-2))+1) (n-1)=G 61 [lo,hi,n,nE,t0,t1,x]∧
  min (max (G 4 [min (max x lo) hi,lo,hi,T0,T1]) 0) ((n-1)*65536)-max 0 (min (Int.tdiv (min (max (G 4 [min (max x lo) hi,lo,hi,T0,T1]) 0) ((n-1)*65536)) 65536) (n-2))*65536=G 62 [lo,hi,n,nE,t0,t1,x]:=by
 subst h0 h1
 have e:stY lo hi n nE t0 t1 x=min (max (G 4 [min (max x lo) hi,lo,hi,(if 0<nE then t0 else 0),(if 0<nE then t1 else (n-1)*65536)]) 0) ((n-1)*65536):=rfl
 rw[←e]
 show _=gH 0 255 (stS lo hi n nE t0 t1 x)∧_=gH 0 255 (min (stS lo hi n nE t0 t1 x+1) (n-1))∧_=gH 0 65536 (stY lo hi n nE t0 t1 x-stS lo hi n nE t0 t1 x*65536)
 have y0:0≤stY lo hi n nE t0 t1 x∧stY lo hi n nE t0 t1 x≤(n-1)*65536:=by rw[e];omega
 unfold stS gH
 generalize stY lo hi n nE t0 t1 x=y at *
 rw[Int.tdiv_eq_ediv_of_nonneg y0.1]
 refine⟨by omega,by omega,by omega⟩
end Go.Proofs.Ytdldallkeheciaa
set_option maxRecDepth 100000
namespace Go.Proofs.Ytdldallkeheciaa
open Go Go.RowKit Sx Wi Lk
def aTd (P:Program) (fs:List B):Res SV:=aNw P fs
def aTT:List B:=[]
def kL:B:=(.cmp .lt (.var 3) (.var 0))
def aU3:List B:=aJ kL++aTT
def lT:B:=(.cmp .lt (.var 3) (.var 1))
def aVx:List B:=aJ lT++aU3
def mN:B:=(.cmp .le (.lit 1) (.app 83 (.cons (.var 6) (.cons (.var 3) (.cons (.lit 0) .nil)))))
def aT8:List B:=aJ mN++aVx
def nV:B:=(.cmp .le (.app 83 (.cons (.var 6) (.cons (.var 3) (.cons (.lit 0) .nil)))) (.lit 256))
def aTZ:List B:=aJ nV++aT8
def pJ:B:=(.cmp .lt (.app 82 (.cons (.var 5) (.cons (.var 3) (.cons (.lit 0) .nil)))) (.app 82 (.cons (.var 5) (.cons (.var 3) (.cons (.lit 1) .nil)))))
def aJV:List B:=aJ pJ++aTZ
def pQ:B:=(.cmp .lt (.lit 0) (.var 2))
def aT4:List B:=aJ pQ++aJV
def zG:B:=(.cmp .lt (.var 3) (.var 2))
def aVI:List B:=aJ zG++aT4
def pL:B:=(.cmp .eq (.op .sub (.app 82 (.cons (.var 5) (.cons (.var 3) (.cons (.lit 1) .nil)))) (.app 82 (.cons (.var 5) (.cons (.var 3) (.cons (.lit 0) .nil))))) (.lit 0))
def aUy:List B:=aJ (B.neg pL)++aVI
def aMY:SV:=(.tuple [(.agg [(.int .i64 (.op .max (.lit 0) (.op .min (.op .quo (.op .min (.op .max (.app 4 (.cons (.op .min (.op .max (.var 4) (.app 82 (.cons (.var 5) (.cons (.var 3) (.cons (.lit 0) .nil))))) (.app 82 (.cons (.var 5) (.cons (.var 3) (.cons (.lit 1) .nil))))) (.cons (.app 82 (.cons (.var 5) (.cons (.var 3) (.cons (.lit 0) .nil)))) (.cons (.app 82 (.cons (.var 5) (.cons (.var 3) (.cons (.lit 1) .nil)))) (.cons (.app 82 (.cons (.var 7) (.cons (.var 3) (.cons (.lit 0) .nil)))) (.cons (.app 82 (.cons (.var 7) (.cons (.var 3) (.cons (.lit 1) .nil)))) .nil)))))) (.lit 0)) (.op .mul (.op .sub (.app 83 (.cons (.var 6) (.cons (.var 3) (.cons (.lit 0) .nil)))) (.lit 1)) (.lit 65536))) (.lit 65536)) (.op .sub (.app 83 (.cons (.var 6) (.cons (.var 3) (.cons (.lit 0) .nil)))) (.lit 2))))),(.int .i64 (.app 60 (.cons (.app 82 (.cons (.var 5) (.cons (.var 3) (.cons (.lit 0) .nil)))) (.cons (.app 82 (.cons (.var 5) (.cons (.var 3) (.cons (.lit 1) .nil)))) (.cons (.app 83 (.cons (.var 6) (.cons (.var 3) (.cons (.lit 0) .nil)))) (.cons (.var 2) (.cons (.app 82 (.cons (.var 7) (.cons (.var 3) (.cons (.lit 0) .nil)))) (.cons (.app 82 (.cons (.var 7) (.cons (.var 3) (.cons (.lit 1) .nil)))) (.cons (.var 4) .nil))))))))),(.int .i64 (.op .min (.op .add (.op .max (.lit 0) (.op .min (.op .quo (.op .min (.op .max (.app 4 (.cons (.op .min (.op .max (.var 4) (.app 82 (.cons (.var 5) (.cons (.var 3) (.cons (.lit 0) .nil))))) (.app 82 (.cons (.var 5) (.cons (.var 3) (.cons (.lit 1) .nil))))) (.cons (.app 82 (.cons (.var 5) (.cons (.var 3) (.cons (.lit 0) .nil)))) (.cons (.app 82 (.cons (.var 5) (.cons (.var 3) (.cons (.lit 1) .nil)))) (.cons (.app 82 (.cons (.var 7) (.cons (.var 3) (.cons (.lit 0) .nil)))) (.cons (.app 82 (.cons (.var 7) (.cons (.var 3) (.cons (.lit 1) .nil)))) .nil)))))) (.lit 0)) (.op .mul (.op .sub (.app 83 (.cons (.var 6) (.cons (.var 3) (.cons (.lit 0) .nil)))) (.lit 1)) (.lit 65536))) (.lit 65536)) (.op .sub (.app 83 (.cons (.var 6) (.cons (.var 3) (.cons (.lit 0) .nil)))) (.lit 2)))) (.lit 1)) (.op .sub (.app 83 (.cons (.var 6) (.cons (.var 3) (.cons (.lit 0) .nil)))) (.lit 1)))),(.int .i64 (.app 61 (.cons (.app 82 (.cons (.var 5) (.cons (.var 3) (.cons (.lit 0) .nil)))) (.cons (.app 82 (.cons (.var 5) (.cons (.var 3) (.cons (.lit 1) .nil)))) (.cons (.app 83 (.cons (.var 6) (.cons (.var 3) (.cons (.lit 0) .nil)))) (.cons (.var 2) (.cons (.app 82 (.cons (.var 7) (.cons (.var 3) (.cons (.lit 0) .nil)))) (.cons (.app 82 (.cons (.var 7) (.cons (.var 3) (.cons (.lit 1) .nil)))) (.cons (.var 4) .nil))))))))),(.int .i64 (.op .sub (.op .min (.op .max (.app 4 (.cons (.op .min (.op .max (.var 4) (.app 82 (.cons (.var 5) (.cons (.var 3) (.cons (.lit 0) .nil))))) (.app 82 (.cons (.var 5) (.cons (.var 3) (.cons (.lit 1) .nil))))) (.cons (.app 82 (.cons (.var 5) (.cons (.var 3) (.cons (.lit 0) .nil)))) (.cons (.app 82 (.cons (.var 5) (.cons (.var 3) (.cons (.lit 1) .nil)))) (.cons (.app 82 (.cons (.var 7) (.cons (.var 3) (.cons (.lit 0) .nil)))) (.cons (.app 82 (.cons (.var 7) (.cons (.var 3) (.cons (.lit 1) .nil)))) .nil)))))) (.lit 0)) (.op .mul (.op .sub (.app 83 (.cons (.var 6) (.cons (.var 3) (.cons (.lit 0) .nil)))) (.lit 1)) (.lit 65536))) (.op .mul (.op .max (.lit 0) (.op .min (.op .quo (.op .min (.op .max (.app 4 (.cons (.op .min (.op .max (.var 4) (.app 82 (.cons (.var 5) (.cons (.var 3) (.cons (.lit 0) .nil))))) (.app 82 (.cons (.var 5) (.cons (.var 3) (.cons (.lit 1) .nil))))) (.cons (.app 82 (.cons (.var 5) (.cons (.var 3) (.cons (.lit 0) .nil)))) (.cons (.app 82 (.cons (.var 5) (.cons (.var 3) (.cons (.lit 1) .nil)))) (.cons (.app 82 (.cons (.var 7) (.cons (.var 3) (.cons (.lit 0) .nil)))) (.cons (.app 82 (.cons (.var 7) (.cons (.var 3) (.cons (.lit 1) .nil)))) .nil)))))) (.lit 0)) (.op .mul (.op .sub (.app 83 (.cons (.var 6) (.cons (.var 3) (.cons (.lit 0) .nil)))) (.lit 1)) (.lit 65536))) (.lit 65536)) (.op .sub (.app 83 (.cons (.var 6) (.cons (.var 3) (.cons (.lit 0) .nil)))) (.lit 2)))) (.lit 65536)))),(.int .i64 (.app 62 (.cons (.app 82 (.cons (.var 5) (.cons (.var 3) (.cons (.lit 0) .nil)))) (.cons (.app 82 (.cons (.var 5) (.cons (.var 3) (.cons (.lit 1) .nil)))) (.cons (.app 83 (.cons (.var 6) (.cons (.var 3) (.cons (.lit 0) .nil)))) (.cons (.var 2) (.cons (.app 82 (.cons (.var 7) (.cons (.var 3) (.cons (.lit 0) .nil)))) (.cons (.app 82 (.cons (.var 7) (.cons (.var 3) (.cons (.lit 1) .nil)))) (.cons (.var 4) .nil)))))))))]),(.bool (.lit true))])
def aO6:List B:=aJ (B.neg pQ)++aJV
def aQD:List B:=aJ (B.neg pL)++aO6
def aJw:SV:=(.tuple [(.agg [(.int .i64 (.op .max (.lit 0) (.op .min (.op .quo (.op .min (.op .max (.app 4 (.cons (.op .min (.op .max (.var 4) (.app 82 (.cons (.var 5) (.cons (.var 3) (.cons (.lit 0) .nil))))) (.app 82 (.cons (.var 5) (.cons (.var 3) (.cons (.lit 1) .nil))))) (.cons (.app 82 (.cons (.var 5) (.cons (.var 3) (.cons (.lit 0) .nil)))) (.cons (.app 82 (.cons (.var 5) (.cons (.var 3) (.cons (.lit 1) .nil)))) (.cons (.lit 0) (.cons (.op .mul (.op .sub (.app 83 (.cons (.var 6) (.cons (.var 3) (.cons (.lit 0) .nil)))) (.lit 1)) (.lit 65536)) .nil)))))) (.lit 0)) (.op .mul (.op .sub (.app 83 (.cons (.var 6) (.cons (.var 3) (.cons (.lit 0) .nil)))) (.lit 1)) (.lit 65536))) (.lit 65536)) (.op .sub (.app 83 (.cons (.var 6) (.cons (.var 3) (.cons (.lit 0) .nil)))) (.lit 2))))),(.int .i64 (.app 60 (.cons (.app 82 (.cons (.var 5) (.cons (.var 3) (.cons (.lit 0) .nil)))) (.cons (.app 82 (.cons (.var 5) (.cons (.var 3) (.cons (.lit 1) .nil)))) (.cons (.app 83 (.cons (.var 6) (.cons (.var 3) (.cons (.lit 0) .nil)))) (.cons (.var 2) (.cons (.app 82 (.cons (.var 7) (.cons (.var 3) (.cons (.lit 0) .nil)))) (.cons (.app 82 (.cons (.var 7) (.cons (.var 3) (.cons (.lit 1) .nil)))) (.cons (.var 4) .nil))))))))),(.int .i64 (.op .min (.op .add (.op .max (.lit 0) (.op .min (.op .quo (.op .min (.op .max (.app 4 (.cons (.op .min (.op .max (.var 4) (.app 82 (.cons (.var 5) (.cons (.var 3) (.cons (.lit 0) .nil))))) (.app 82 (.cons (.var 5) (.cons (.var 3) (.cons (.lit 1) .nil))))) (.cons (.app 82 (.cons (.var 5) (.cons (.var 3) (.cons (.lit 0) .nil)))) (.cons (.app 82 (.cons (.var 5) (.cons (.var 3) (.cons (.lit 1) .nil)))) (.cons (.lit 0) (.cons (.op .mul (.op .sub (.app 83 (.cons (.var 6) (.cons (.var 3) (.cons (.lit 0) .nil)))) (.lit 1)) (.lit 65536)) .nil)))))) (.lit 0)) (.op .mul (.op .sub (.app 83 (.cons (.var 6) (.cons (.var 3) (.cons (.lit 0) .nil)))) (.lit 1)) (.lit 65536))) (.lit 65536)) (.op .sub (.app 83 (.cons (.var 6) (.cons (.var 3) (.cons (.lit 0) .nil)))) (.lit 2)))) (.lit 1)) (.op .sub (.app 83 (.cons (.var 6) (.cons (.var 3) (.cons (.lit 0) .nil)))) (.lit 1)))),(.int .i64 (.app 61 (.cons (.app 82 (.cons (.var 5) (.cons (.var 3) (.cons (.lit 0) .nil)))) (.cons (.app 82 (.cons (.var 5) (.cons (.var 3) (.cons (.lit 1) .nil)))) (.cons (.app 83 (.cons (.var 6) (.cons (.var 3) (.cons (.lit 0) .nil)))) (.cons (.var 2) (.cons (.app 82 (.cons (.var 7) (.cons (.var 3) (.cons (.lit 0) .nil)))) (.cons (.app 82 (.cons (.var 7) (.cons (.var 3) (.cons (.lit 1) .nil)))) (.cons (.var 4) .nil))))))))),(.int .i64 (.op .sub (.op .min (.op .max (.app 4 (.cons (.op .min (.op .max (.var 4) (.app 82 (.cons (.var 5) (.cons (.var 3) (.cons (.lit 0) .nil))))) (.app 82 (.cons (.var 5) (.cons (.var 3) (.cons (.lit 1) .nil))))) (.cons (.app 82 (.cons (.var 5) (.cons (.var 3) (.cons (.lit 0) .nil)))) (.cons (.app 82 (.cons (.var 5) (.cons (.var 3) (.cons (.lit 1) .nil)))) (.cons (.lit 0) (.cons (.op .mul (.op .sub (.app 83 (.cons (.var 6) (.cons (.var 3) (.cons (.lit 0) .nil)))) (.lit 1)) (.lit 65536)) .nil)))))) (.lit 0)) (.op .mul (.op .sub (.app 83 (.cons (.var 6) (.cons (.var 3) (.cons (.lit 0) .nil)))) (.lit 1)) (.lit 65536))) (.op .mul (.op .max (.lit 0) (.op .min (.op .quo (.op .min (.op .max (.app 4 (.cons (.op .min (.op .max (.var 4) (.app 82 (.cons (.var 5) (.cons (.var 3) (.cons (.lit 0) .nil))))) (.app 82 (.cons (.var 5) (.cons (.var 3) (.cons (.lit 1) .nil))))) (.cons (.app 82 (.cons (.var 5) (.cons (.var 3) (.cons (.lit 0) .nil)))) (.cons (.app 82 (.cons (.var 5) (.cons (.var 3) (.cons (.lit 1) .nil)))) (.cons (.lit 0) (.cons (.op .mul (.op .sub (.app 83 (.cons (.var 6) (.cons (.var 3) (.cons (.lit 0) .nil)))) (.lit 1)) (.lit 65536)) .nil)))))) (.lit 0)) (.op .mul (.op .sub (.app 83 (.cons (.var 6) (.cons (.var 3) (.cons (.lit 0) .nil)))) (.lit 1)) (.lit 65536))) (.lit 65536)) (.op .sub (.app 83 (.cons (.var 6) (.cons (.var 3) (.cons (.lit 0) .nil)))) (.lit 2)))) (.lit 65536)))),(.int .i64 (.app 62 (.cons (.app 82 (.cons (.var 5) (.cons (.var 3) (.cons (.lit 0) .nil)))) (.cons (.app 82 (.cons (.var 5) (.cons (.var 3) (.cons (.lit 1) .nil)))) (.cons (.app 83 (.cons (.var 6) (.cons (.var 3) (.cons (.lit 0) .nil)))) (.cons (.var 2) (.cons (.app 82 (.cons (.var 7) (.cons (.var 3) (.cons (.lit 0) .nil)))) (.cons (.app 82 (.cons (.var 7) (.cons (.var 3) (.cons (.lit 1) .nil)))) (.cons (.var 4) .nil)))))))))]),(.bool (.lit true))])
theorem aTD:aTd Try.prog aUy = .ok aMY:=by kernel_rfl
theorem aN4:aTd Try.prog aQD = .ok aJw:=by kernel_rfl
end Go.Proofs.Ytdldallkeheciaa
namespace Go.Proofs.Ytdldallkeheciaa
open Go Go.RowKit Sx Wi Lk
def kG:B:=(.and (.cmp .lt (.var 3) (.var 0)) (.and (.cmp .lt (.var 3) (.var 1)) (.and (.or (.cmp .eq (.var 2) (.lit 0)) (.cmp .lt (.var 3) (.var 2))) (.and (.cmp .le (.lit 1) (.app 83 (.cons (.var 6) (.cons (.var 3) (.cons (.lit 0) .nil))))) (.and (.cmp .le (.app 83 (.cons (.var 6) (.cons (.var 3) (.cons (.lit 0) .nil)))) (.lit 256)) (.cmp .lt (.app 82 (.cons (.var 5) (.cons (.var 3) (.cons (.lit 0) .nil)))) (.app 82 (.cons (.var 5) (.cons (.var 3) (.cons (.lit 1) .nil))))))))))
set_option maxHeartbeats 8000000 in
set_option maxRecDepth 100000 in
theorem aUM (x0 x1 x2 x3 x4 l0 l1 l2:Int) (b0:0≤x0∧x0≤8) (b1:0≤x1∧x1≤8) (b2:0≤x2∧x2≤8) (b3:0≤x3∧x3≤3) (b4:(-2147483648)≤x4∧x4≤2147483647) (hp:(kG).den G (cR ([x0,x1,x2,x3,x4]++[l0,l1,l2]))=true):gD Try.prog G GB 26 aVG (cR ([x0,x1,x2,x3,x4]++[l0,l1,l2])):=by
 refine cX (lp:=dQ) (run:=aNw Try.prog) (fun _=>rfl) fits (bP (xs:=[x0,x1,x2,x3,x4]) (ls:=[l0,l1,l2]) (by exact⟨b0,b1,b2,b3,b4,trivial⟩)) eS (fun X hX hG=>dA hX hG) (fun X hX hG fn c hf hc=>cG) rfl ?_
 refine aG kL (fun h0=>?_) (fun h0=>?_)
 rotate_left
 ·skip
  refine aQ ?_
  unfold kL at h0;unfold kG at hp;simp only[nn,List.cons_append,List.nil_append,Bool.or_eq_true,aP,ne_eq]at hp;exfalso;simp only[nn,List.cons_append,List.nil_append,Bool.or_eq_true,aP,ne_eq]at h0;generalize G 82 [l0,x3,0]=c0 at *;generalize G 82 [l0,x3,1]=c1 at *;generalize G 83 [l1,x3,0]=c2 at *;generalize G 82 [l2,x3,0]=c3 at *;generalize G 82 [l2,x3,1]=c4 at *;omega
 refine aG lT (fun h1=>?_) (fun h1=>?_)
 rotate_left
 ·skip
  refine aQ ?_
  unfold kL at h0;unfold lT at h1;unfold kG at hp;simp only[nn,List.cons_append,List.nil_append,Bool.or_eq_true,aP,ne_eq]at hp;exfalso;simp only[nn,List.cons_append,List.nil_append,Bool.or_eq_true,aP,ne_eq]at h0 h1;generalize G 82 [l0,x3,0]=c0 at *;generalize G 82 [l0,x3,1]=c1 at *;generalize G 83 [l1,x3,0]=c2 at *;generalize G 82 [l2,x3,0]=c3 at *;generalize G 82 [l2,x3,1]=c4 at *;omega
 refine aG mN (fun h2=>?_) (fun h2=>?_)
 rotate_left
 ·skip
  refine aQ ?_
  unfold kL at h0;unfold lT at h1;unfold mN at h2;unfold kG at hp;simp only[nn,List.cons_append,List.nil_append,Bool.or_eq_true,aP,ne_eq]at hp;exfalso;simp only[nn,List.cons_append,List.nil_append,Bool.or_eq_true,aP,ne_eq]at h0 h1 h2;generalize G 82 [l0,x3,0]=c0 at *;generalize G 82 [l0,x3,1]=c1 at *;generalize G 83 [l1,x3,0]=c2 at *;generalize G 82 [l2,x3,0]=c3 at *;generalize G 82 [l2,x3,1]=c4 at *;omega
 refine aG nV (fun h3=>?_) (fun h3=>?_)
 rotate_left
 ·skip
  refine aQ ?_
  unfold kL at h0;unfold lT at h1;unfold mN at h2;unfold nV at h3;unfold kG at hp;simp only[nn,List.cons_append,List.nil_append,Bool.or_eq_true,aP,ne_eq]at hp;exfalso;simp only[nn,List.cons_append,List.nil_append,Bool.or_eq_true,aP,ne_eq]at h0 h1 h2 h3;generalize G 82 [l0,x3,0]=c0 at *;generalize G 82 [l0,x3,1]=c1 at *;generalize G 83 [l1,x3,0]=c2 at *;generalize G 82 [l2,x3,0]=c3 at *;generalize G 82 [l2,x3,1]=c4 at *;omega
 refine aG pJ (fun h4=>?_) (fun h4=>?_)
 rotate_left
 ·skip
  refine aQ ?_
  unfold kL at h0;unfold lT at h1;unfold mN at h2;unfold nV at h3;unfold pJ at h4;unfold kG at hp;simp only[nn,List.cons_append,List.nil_append,Bool.or_eq_true,aP,ne_eq]at hp;exfalso;simp only[nn,List.cons_append,List.nil_append,Bool.or_eq_true,aP,ne_eq]at h0 h1 h2 h3 h4;generalize G 82 [l0,x3,0]=c0 at *;generalize G 82 [l0,x3,1]=c1 at *;generalize G 83 [l1,x3,0]=c2 at *;generalize G 82 [l2,x3,0]=c3 at *;generalize G 82 [l2,x3,1]=c4 at *;omega
 refine aG pQ (fun h5=>?_) (fun h5=>?_)
 rotate_left
 ·skip
  refine aG pL (fun h6=>?_) (fun h6=>?_)
  ·skip
   refine aQ ?_
   unfold kL at h0;unfold lT at h1;unfold mN at h2;unfold nV at h3;unfold pJ at h4;unfold pQ at h5;unfold pL at h6;unfold kG at hp;simp only[nn,List.cons_append,List.nil_append,Bool.or_eq_true,aP,ne_eq]at hp;exfalso;simp only[nn,List.cons_append,List.nil_append,Bool.or_eq_true,aP,ne_eq]at h0 h1 h2 h3 h4 h5 h6;generalize G 82 [l0,x3,0]=c0 at *;generalize G 82 [l0,x3,1]=c1 at *;generalize G 83 [l1,x3,0]=c2 at *;generalize G 82 [l2,x3,0]=c3 at *;generalize G 82 [l2,x3,1]=c4 at *;omega
  refine aH aN4 ?_
  unfold kL at h0;unfold lT at h1;unfold mN at h2;unfold nV at h3;unfold pJ at h4;unfold pQ at h5;unfold pL at h6;unfold kG at hp;simp only[nn,List.cons_append,List.nil_append,Bool.or_eq_true,aP,ne_eq]at hp;unfold aJw;simp only[nn,List.cons_append,List.nil_append,Bool.or_eq_true,aP,ne_eq]at h0 h1 h2 h3 h4 h5 h6;simp only[bK];refine⟨rfl,?_⟩;simp only[aI];simp only[nn,List.cons_append,List.nil_append,Bool.or_eq_true,aP,ne_eq];obtain⟨e1,e2,e3⟩:=aGa (lo:=G 82 [l0,x3,0]) (hi:=G 82 [l0,x3,1]) (n:=G 83 [l1,x3,0]) (nE:=x2) (t0:=G 82 [l2,x3,0]) (t1:=G 82 [l2,x3,1]) (x:=x4) (T0:=0) (T1:=(G 83 [l1,x3,0]-1)*65536) ⟨by omega,by omega⟩ (by rw[if_neg (by omega)]) (by rw[if_neg (by omega)]);refine⟨?_,?_,?_,trivial⟩<;>first|with_reducible exact e1|with_reducible exact e2|with_reducible exact e3
 refine aG zG (fun h6=>?_) (fun h6=>?_)
 rotate_left
 ·skip
  refine aQ ?_
  unfold kL at h0;unfold lT at h1;unfold mN at h2;unfold nV at h3;unfold pJ at h4;unfold pQ at h5;unfold zG at h6;unfold kG at hp;simp only[nn,List.cons_append,List.nil_append,Bool.or_eq_true,aP,ne_eq]at hp;exfalso;simp only[nn,List.cons_append,List.nil_append,Bool.or_eq_true,aP,ne_eq]at h0 h1 h2 h3 h4 h5 h6;generalize G 82 [l0,x3,0]=c0 at *;generalize G 82 [l0,x3,1]=c1 at *;generalize G 83 [l1,x3,0]=c2 at *;generalize G 82 [l2,x3,0]=c3 at *;generalize G 82 [l2,x3,1]=c4 at *;omega
 refine aG pL (fun h7=>?_) (fun h7=>?_)
 ·skip
  refine aQ ?_
  unfold kL at h0;unfold lT at h1;unfold mN at h2;unfold nV at h3;unfold pJ at h4;unfold pQ at h5;unfold zG at h6;unfold pL at h7;unfold kG at hp;simp only[nn,List.cons_append,List.nil_append,Bool.or_eq_true,aP,ne_eq]at hp;exfalso;simp only[nn,List.cons_append,List.nil_append,Bool.or_eq_true,aP,ne_eq]at h0 h1 h2 h3 h4 h5 h6 h7;generalize G 82 [l0,x3,0]=c0 at *;generalize G 82 [l0,x3,1]=c1 at *;generalize G 83 [l1,x3,0]=c2 at *;generalize G 82 [l2,x3,0]=c3 at *;generalize G 82 [l2,x3,1]=c4 at *;omega
 refine aH aTD ?_
 unfold kL at h0;unfold lT at h1;unfold mN at h2;unfold nV at h3;unfold pJ at h4;unfold pQ at h5;unfold zG at h6;unfold pL at h7;unfold kG at hp;simp only[nn,List.cons_append,List.nil_append,Bool.or_eq_true,aP,ne_eq]at hp;unfold aMY;simp only[nn,List.cons_append,List.nil_append,Bool.or_eq_true,aP,ne_eq]at h0 h1 h2 h3 h4 h5 h6 h7;simp only[bK];refine⟨rfl,?_⟩;simp only[aI];simp only[nn,List.cons_append,List.nil_append,Bool.or_eq_true,aP,ne_eq];obtain⟨e1,e2,e3⟩:=aGa (lo:=G 82 [l0,x3,0]) (hi:=G 82 [l0,x3,1]) (n:=G 83 [l1,x3,0]) (nE:=x2) (t0:=G 82 [l2,x3,0]) (t1:=G 82 [l2,x3,1]) (x:=x4) (T0:=G 82 [l2,x3,0]) (T1:=G 82 [l2,x3,1]) ⟨by omega,by omega⟩ (by rw[if_pos (by omega)]) (by rw[if_pos (by omega)]);refine⟨?_,?_,?_,trivial⟩<;>first|with_reducible exact e1|with_reducible exact e2|with_reducible exact e3
def aDp:Ctx→List SV→aM→Res (SV × aM):=dZ GB [(0,8),(0,8),(0,8),(0,3),((-2147483648),2147483647)] 3 kG aVG
theorem aWG {X:Ctx} {ρ:Nat→Int} (hX:X.Ok ρ) (hG:X.G=G):eU Try.prog X ρ GB 26 aDp:=by
 obtain⟨XG,XI,XV,XF⟩:=X
 simp only at hG
 subst hG
 refine cU hX ?_
 intro xs ls hw hl hp
 obtain⟨x0,y0,e0,b0,h0⟩:=aY hw
 obtain⟨x1,y1,e1,b1,h1⟩:=aY h0
 obtain⟨x2,y2,e2,b2,h2⟩:=aY h1
 obtain⟨x3,y3,e3,b3,h3⟩:=aY h2
 obtain⟨x4,y4,e4,b4,h4⟩:=aY h3
 have e5:=jS h4
 subst e5 e4 e3 e2 e1 e0
 obtain⟨l0,z0,q0,hl0⟩:=bJ hl
 obtain⟨l1,z1,q1,hl1⟩:=bJ hl0
 obtain⟨l2,z2,q2,hl2⟩:=bJ hl1
 have q3:=List.length_eq_zero_iff.1 hl2
 subst q3 q2 q1 q0
 exact aUM x0 x1 x2 x3 x4 l0 l1 l2 b0 b1 b2 b3 b4 hp
end Go.Proofs.Ytdldallkeheciaa
set_option maxRecDepth 100000
namespace Go.Proofs.Ytdldallkeheciaa
open Go Go.RowKit Sx Wi Lk
def aH3 (P:Program) (fs:List B):Res SV:=aKI P fs
def aKz:List B:=[]
def eB:B:=(.cmp .lt (.lit 1) (.var 0))
def aMC:List B:=aJ eB++aKz
def fL:B:=(.cmp .lt (.lit 2) (.var 0))
def aJo:List B:=aJ fL++aMC
def jJ:B:=(.cmp .lt (.lit 3) (.var 0))
def aV7:List B:=aJ jJ++aJo
def rH:B:=(.cmp .le (.lit (-9223372036854775808)) (.app 71 (.cons (.app 71 (.cons (.app 71 (.cons (.app 71 (.cons (.app 71 (.cons (.op .add (.op .mul (.var 4) (.op .mul (.lit 2) (.op .sub (.var 3) (.var 2)))) (.op .mul (.op .mul (.op .mul (.op .mul (.op .sub (.op .shl (.lit 1) (.var 1)) (.lit 1)) (.lit 65536)) (.lit 65536)) (.lit 65536)) (.lit 65536))) (.cons (.lit 65536) .nil))) (.cons (.lit 65536) .nil))) (.cons (.lit 65536) .nil))) (.cons (.lit 65536) .nil))) (.cons (.op .mul (.lit 2) (.op .sub (.op .shl (.lit 1) (.var 1)) (.lit 1))) .nil))))
def aVC:List B:=aJ rH++aV7
def vI:B:=(.cmp .le (.app 71 (.cons (.app 71 (.cons (.app 71 (.cons (.app 71 (.cons (.app 71 (.cons (.op .add (.op .mul (.var 4) (.op .mul (.lit 2) (.op .sub (.var 3) (.var 2)))) (.op .mul (.op .mul (.op .mul (.op .mul (.op .sub (.op .shl (.lit 1) (.var 1)) (.lit 1)) (.lit 65536)) (.lit 65536)) (.lit 65536)) (.lit 65536))) (.cons (.lit 65536) .nil))) (.cons (.lit 65536) .nil))) (.cons (.lit 65536) .nil))) (.cons (.lit 65536) .nil))) (.cons (.op .mul (.lit 2) (.op .sub (.op .shl (.lit 1) (.var 1)) (.lit 1))) .nil))) (.lit 9223372036854775807))
def aWe:List B:=aJ vI++aVC
def yG:B:=(.cmp .le (.lit (-9223372036854775808)) (.op .add (.var 2) (.app 71 (.cons (.app 71 (.cons (.app 71 (.cons (.app 71 (.cons (.app 71 (.cons (.op .add (.op .mul (.var 4) (.op .mul (.lit 2) (.op .sub (.var 3) (.var 2)))) (.op .mul (.op .mul (.op .mul (.op .mul (.op .sub (.op .shl (.lit 1) (.var 1)) (.lit 1)) (.lit 65536)) (.lit 65536)) (.lit 65536)) (.lit 65536))) (.cons (.lit 65536) .nil))) (.cons (.lit 65536) .nil))) (.cons (.lit 65536) .nil))) (.cons (.lit 65536) .nil))) (.cons (.op .mul (.lit 2) (.op .sub (.op .shl (.lit 1) (.var 1)) (.lit 1))) .nil)))))
def aTP:List B:=aJ yG++aWe
def aCB:B:=(.cmp .le (.op .add (.var 2) (.app 71 (.cons (.app 71 (.cons (.app 71 (.cons (.app 71 (.cons (.app 71 (.cons (.op .add (.op .mul (.var 4) (.op .mul (.lit 2) (.op .sub (.var 3) (.var 2)))) (.op .mul (.op .mul (.op .mul (.op .mul (.op .sub (.op .shl (.lit 1) (.var 1)) (.lit 1)) (.lit 65536)) (.lit 65536)) (.lit 65536)) (.lit 65536))) (.cons (.lit 65536) .nil))) (.cons (.lit 65536) .nil))) (.cons (.lit 65536) .nil))) (.cons (.lit 65536) .nil))) (.cons (.op .mul (.lit 2) (.op .sub (.op .shl (.lit 1) (.var 1)) (.lit 1))) .nil)))) (.lit 9223372036854775807))
def aVb:List B:=aJ aCB++aTP
def aKW:SV:=(.tuple [(.agg [(.int .i64 (.op .max (.lit (-2147483648)) (.op .min (.lit 2147483647) (.op .add (.var 2) (.app 71 (.cons (.app 71 (.cons (.app 71 (.cons (.app 71 (.cons (.app 71 (.cons (.op .add (.op .mul (.var 4) (.op .mul (.lit 2) (.op .sub (.var 3) (.var 2)))) (.op .mul (.op .mul (.op .mul (.op .mul (.op .sub (.op .shl (.lit 1) (.var 1)) (.lit 1)) (.lit 65536)) (.lit 65536)) (.lit 65536)) (.lit 65536))) (.cons (.lit 65536) .nil))) (.cons (.lit 65536) .nil))) (.cons (.lit 65536) .nil))) (.cons (.lit 65536) .nil))) (.cons (.op .mul (.lit 2) (.op .sub (.op .shl (.lit 1) (.var 1)) (.lit 1))) .nil))))))),(.int .i64 (.app 68 (.cons (.var 0) (.cons (.var 1) (.cons (.var 2) (.cons (.var 3) (.cons (.var 4) .nil)))))))]),(.bool (.lit true))])
def aSu:List B:=aJ (B.neg jJ)++aJo
def rZ:B:=(.cmp .le (.lit (-9223372036854775808)) (.app 71 (.cons (.app 71 (.cons (.app 71 (.cons (.app 71 (.cons (.op .add (.op .mul (.var 4) (.op .mul (.lit 2) (.op .sub (.var 3) (.var 2)))) (.op .mul (.op .mul (.op .mul (.op .sub (.op .shl (.lit 1) (.var 1)) (.lit 1)) (.lit 65536)) (.lit 65536)) (.lit 65536))) (.cons (.lit 65536) .nil))) (.cons (.lit 65536) .nil))) (.cons (.lit 65536) .nil))) (.cons (.op .mul (.lit 2) (.op .sub (.op .shl (.lit 1) (.var 1)) (.lit 1))) .nil))))
def aNC:List B:=aJ rZ++aSu
def uU:B:=(.cmp .le (.app 71 (.cons (.app 71 (.cons (.app 71 (.cons (.app 71 (.cons (.op .add (.op .mul (.var 4) (.op .mul (.lit 2) (.op .sub (.var 3) (.var 2)))) (.op .mul (.op .mul (.op .mul (.op .sub (.op .shl (.lit 1) (.var 1)) (.lit 1)) (.lit 65536)) (.lit 65536)) (.lit 65536))) (.cons (.lit 65536) .nil))) (.cons (.lit 65536) .nil))) (.cons (.lit 65536) .nil))) (.cons (.op .mul (.lit 2) (.op .sub (.op .shl (.lit 1) (.var 1)) (.lit 1))) .nil))) (.lit 9223372036854775807))
def aOm:List B:=aJ uU++aNC
def yL:B:=(.cmp .le (.lit (-9223372036854775808)) (.op .add (.var 2) (.app 71 (.cons (.app 71 (.cons (.app 71 (.cons (.app 71 (.cons (.op .add (.op .mul (.var 4) (.op .mul (.lit 2) (.op .sub (.var 3) (.var 2)))) (.op .mul (.op .mul (.op .mul (.op .sub (.op .shl (.lit 1) (.var 1)) (.lit 1)) (.lit 65536)) (.lit 65536)) (.lit 65536))) (.cons (.lit 65536) .nil))) (.cons (.lit 65536) .nil))) (.cons (.lit 65536) .nil))) (.cons (.op .mul (.lit 2) (.op .sub (.op .shl (.lit 1) (.var 1)) (.lit 1))) .nil)))))
def aSJ:List B:=aJ yL++aOm
def wZ:B:=(.cmp .le (.op .add (.var 2) (.app 71 (.cons (.app 71 (.cons (.app 71 (.cons (.app 71 (.cons (.op .add (.op .mul (.var 4) (.op .mul (.lit 2) (.op .sub (.var 3) (.var 2)))) (.op .mul (.op .mul (.op .mul (.op .sub (.op .shl (.lit 1) (.var 1)) (.lit 1)) (.lit 65536)) (.lit 65536)) (.lit 65536))) (.cons (.lit 65536) .nil))) (.cons (.lit 65536) .nil))) (.cons (.lit 65536) .nil))) (.cons (.op .mul (.lit 2) (.op .sub (.op .shl (.lit 1) (.var 1)) (.lit 1))) .nil)))) (.lit 9223372036854775807))
def aR4:List B:=aJ wZ++aSJ
def aNq:SV:=(.tuple [(.agg [(.int .i64 (.op .max (.lit (-2147483648)) (.op .min (.lit 2147483647) (.op .add (.var 2) (.app 71 (.cons (.app 71 (.cons (.app 71 (.cons (.app 71 (.cons (.op .add (.op .mul (.var 4) (.op .mul (.lit 2) (.op .sub (.var 3) (.var 2)))) (.op .mul (.op .mul (.op .mul (.op .sub (.op .shl (.lit 1) (.var 1)) (.lit 1)) (.lit 65536)) (.lit 65536)) (.lit 65536))) (.cons (.lit 65536) .nil))) (.cons (.lit 65536) .nil))) (.cons (.lit 65536) .nil))) (.cons (.op .mul (.lit 2) (.op .sub (.op .shl (.lit 1) (.var 1)) (.lit 1))) .nil))))))),(.int .i64 (.app 68 (.cons (.var 0) (.cons (.var 1) (.cons (.var 2) (.cons (.var 3) (.cons (.var 4) .nil)))))))]),(.bool (.lit true))])
def aOO:List B:=aJ (B.neg fL)++aMC
def oT:B:=(.cmp .le (.lit (-9223372036854775808)) (.app 71 (.cons (.app 71 (.cons (.app 71 (.cons (.op .add (.op .mul (.var 4) (.op .mul (.lit 2) (.op .sub (.var 3) (.var 2)))) (.op .mul (.op .mul (.op .sub (.op .shl (.lit 1) (.var 1)) (.lit 1)) (.lit 65536)) (.lit 65536))) (.cons (.lit 65536) .nil))) (.cons (.lit 65536) .nil))) (.cons (.op .mul (.lit 2) (.op .sub (.op .shl (.lit 1) (.var 1)) (.lit 1))) .nil))))
def aPs:List B:=aJ oT++aOO
def qL:B:=(.cmp .le (.app 71 (.cons (.app 71 (.cons (.app 71 (.cons (.op .add (.op .mul (.var 4) (.op .mul (.lit 2) (.op .sub (.var 3) (.var 2)))) (.op .mul (.op .mul (.op .sub (.op .shl (.lit 1) (.var 1)) (.lit 1)) (.lit 65536)) (.lit 65536))) (.cons (.lit 65536) .nil))) (.cons (.lit 65536) .nil))) (.cons (.op .mul (.lit 2) (.op .sub (.op .shl (.lit 1) (.var 1)) (.lit 1))) .nil))) (.lit 9223372036854775807))
def aQC:List B:=aJ qL++aPs
def tE:B:=(.cmp .le (.lit (-9223372036854775808)) (.op .add (.var 2) (.app 71 (.cons (.app 71 (.cons (.app 71 (.cons (.op .add (.op .mul (.var 4) (.op .mul (.lit 2) (.op .sub (.var 3) (.var 2)))) (.op .mul (.op .mul (.op .sub (.op .shl (.lit 1) (.var 1)) (.lit 1)) (.lit 65536)) (.lit 65536))) (.cons (.lit 65536) .nil))) (.cons (.lit 65536) .nil))) (.cons (.op .mul (.lit 2) (.op .sub (.op .shl (.lit 1) (.var 1)) (.lit 1))) .nil)))))
def aPo:List B:=aJ tE++aQC
def xA:B:=(.cmp .le (.op .add (.var 2) (.app 71 (.cons (.app 71 (.cons (.app 71 (.cons (.op .add (.op .mul (.var 4) (.op .mul (.lit 2) (.op .sub (.var 3) (.var 2)))) (.op .mul (.op .mul (.op .sub (.op .shl (.lit 1) (.var 1)) (.lit 1)) (.lit 65536)) (.lit 65536))) (.cons (.lit 65536) .nil))) (.cons (.lit 65536) .nil))) (.cons (.op .mul (.lit 2) (.op .sub (.op .shl (.lit 1) (.var 1)) (.lit 1))) .nil)))) (.lit 9223372036854775807))
def aPF:List B:=aJ xA++aPo
def aNm:SV:=(.tuple [(.agg [(.int .i64 (.op .max (.lit (-2147483648)) (.op .min (.lit 2147483647) (.op .add (.var 2) (.app 71 (.cons (.app 71 (.cons (.app 71 (.cons (.op .add (.op .mul (.var 4) (.op .mul (.lit 2) (.op .sub (.var 3) (.var 2)))) (.op .mul (.op .mul (.op .sub (.op .shl (.lit 1) (.var 1)) (.lit 1)) (.lit 65536)) (.lit 65536))) (.cons (.lit 65536) .nil))) (.cons (.lit 65536) .nil))) (.cons (.op .mul (.lit 2) (.op .sub (.op .shl (.lit 1) (.var 1)) (.lit 1))) .nil))))))),(.int .i64 (.app 68 (.cons (.var 0) (.cons (.var 1) (.cons (.var 2) (.cons (.var 3) (.cons (.var 4) .nil)))))))]),(.bool (.lit true))])
def aSp:List B:=aJ (B.neg eB)++aKz
def oM:B:=(.cmp .le (.lit (-9223372036854775808)) (.app 71 (.cons (.app 71 (.cons (.op .add (.op .mul (.var 4) (.op .mul (.lit 2) (.op .sub (.var 3) (.var 2)))) (.op .mul (.op .sub (.op .shl (.lit 1) (.var 1)) (.lit 1)) (.lit 65536))) (.cons (.lit 65536) .nil))) (.cons (.op .mul (.lit 2) (.op .sub (.op .shl (.lit 1) (.var 1)) (.lit 1))) .nil))))
def aPn:List B:=aJ oM++aSp
def qJ:B:=(.cmp .le (.app 71 (.cons (.app 71 (.cons (.op .add (.op .mul (.var 4) (.op .mul (.lit 2) (.op .sub (.var 3) (.var 2)))) (.op .mul (.op .sub (.op .shl (.lit 1) (.var 1)) (.lit 1)) (.lit 65536))) (.cons (.lit 65536) .nil))) (.cons (.op .mul (.lit 2) (.op .sub (.op .shl (.lit 1) (.var 1)) (.lit 1))) .nil))) (.lit 9223372036854775807))
def aOz:List B:=aJ qJ++aPn
def sT:B:=(.cmp .le (.lit (-9223372036854775808)) (.op .add (.var 2) (.app 71 (.cons (.app 71 (.cons (.op .add (.op .mul (.var 4) (.op .mul (.lit 2) (.op .sub (.var 3) (.var 2)))) (.op .mul (.op .sub (.op .shl (.lit 1) (.var 1)) (.lit 1)) (.lit 65536))) (.cons (.lit 65536) .nil))) (.cons (.op .mul (.lit 2) (.op .sub (.op .shl (.lit 1) (.var 1)) (.lit 1))) .nil)))))
def aPQ:List B:=aJ sT++aOz
def wW:B:=(.cmp .le (.op .add (.var 2) (.app 71 (.cons (.app 71 (.cons (.op .add (.op .mul (.var 4) (.op .mul (.lit 2) (.op .sub (.var 3) (.var 2)))) (.op .mul (.op .sub (.op .shl (.lit 1) (.var 1)) (.lit 1)) (.lit 65536))) (.cons (.lit 65536) .nil))) (.cons (.op .mul (.lit 2) (.op .sub (.op .shl (.lit 1) (.var 1)) (.lit 1))) .nil)))) (.lit 9223372036854775807))
def aPI:List B:=aJ wW++aPQ
def aMu:SV:=(.tuple [(.agg [(.int .i64 (.op .max (.lit (-2147483648)) (.op .min (.lit 2147483647) (.op .add (.var 2) (.app 71 (.cons (.app 71 (.cons (.op .add (.op .mul (.var 4) (.op .mul (.lit 2) (.op .sub (.var 3) (.var 2)))) (.op .mul (.op .sub (.op .shl (.lit 1) (.var 1)) (.lit 1)) (.lit 65536))) (.cons (.lit 65536) .nil))) (.cons (.op .mul (.lit 2) (.op .sub (.op .shl (.lit 1) (.var 1)) (.lit 1))) .nil))))))),(.int .i64 (.app 68 (.cons (.var 0) (.cons (.var 1) (.cons (.var 2) (.cons (.var 3) (.cons (.var 4) .nil)))))))]),(.bool (.lit true))])
theorem aUk:aH3 Try.prog aVb = .ok aKW:=by kernel_rfl
theorem aPk:aH3 Try.prog aR4 = .ok aNq:=by kernel_rfl
theorem aRi:aH3 Try.prog aPF = .ok aNm:=by kernel_rfl
theorem aOL:aH3 Try.prog aPI = .ok aMu:=by kernel_rfl
end Go.Proofs.Ytdldallkeheciaa
