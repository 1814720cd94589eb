/- What is proved: what some functions leave,as it is told. No condition but the numbers' own bounds. -/
import Derived.Test.YtdldallkeheciaaQNn
import Derived.Test.YtdldallkeheciaaQa1
import Derived.Test.YtdldallkeheciaaQa2
import Derived.Test.YtdldallkeheciaaQg4
import Derived.Test.YtdldallkeheciaaProg
set_option linter.unusedSimpArgs false
set_option linter.unusedVariables false
namespace Go.Proofs.Ytdldallkeheciaa
open Go Go.RowKit Sx Wi Lk
set_option maxHeartbeats 8000000 in
set_option maxRecDepth 100000 in
theorem aTP (x0 l0:Int) (b0:1≤x0∧x0≤4):fX Try.prog G GB 91 aTo (cQ ([x0]++[l0])):=by
 refine cY (lp:=dO) (run:=aMi Try.prog) (fun _=>rfl) fits (bP (xs:=[x0]) (ls:=[l0]) (by exact⟨b0,trivial⟩)) eU (fun X hX hG=>dA hX hG) (fun X hX hG fn c hf hc=>cF) rfl ?_
 refine aG iD (fun h0=>?_) (fun h0=>?_)
 ·skip
  refine aH aU7 ?_
  unfold iD at h0;unfold aCj;simp only[bK];refine⟨rfl,?_⟩;simp only[aI];refine⟨?_,trivial⟩;simp only[nn,List.cons_append,List.nil_append,Bool.or_eq_true,aP,ne_eq]at *;generalize G 82 [l0,0,0]=c0 at *;generalize G 82 [l0,0,1]=c1 at *;generalize G 82 [l0,1,0]=c2 at *;generalize G 82 [l0,1,1]=c3 at *;generalize G 82 [l0,2,0]=c4 at *;generalize G 82 [l0,2,1]=c5 at *;generalize G 82 [l0,3,0]=c6 at *;generalize G 82 [l0,3,1]=c7 at *;(try simp only[Bool.and_eq_true,Bool.or_eq_true,decide_eq_true_eq]at *);rw[Bool.eq_iff_iff];simp only[Bool.and_eq_true,Bool.or_eq_true,decide_eq_true_eq];omega
 refine aG jA (fun h1=>?_) (fun h1=>?_)
 ·skip
  refine aH aTx ?_
  unfold iD at h0;unfold jA at h1;unfold aCj;simp only[bK];refine⟨rfl,?_⟩;simp only[aI];refine⟨?_,trivial⟩;simp only[nn,List.cons_append,List.nil_append,Bool.or_eq_true,aP,ne_eq]at *;generalize G 82 [l0,0,0]=c0 at *;generalize G 82 [l0,0,1]=c1 at *;generalize G 82 [l0,1,0]=c2 at *;generalize G 82 [l0,1,1]=c3 at *;generalize G 82 [l0,2,0]=c4 at *;generalize G 82 [l0,2,1]=c5 at *;generalize G 82 [l0,3,0]=c6 at *;generalize G 82 [l0,3,1]=c7 at *;(try simp only[Bool.and_eq_true,Bool.or_eq_true,decide_eq_true_eq]at *);rw[Bool.eq_iff_iff];simp only[Bool.and_eq_true,Bool.or_eq_true,decide_eq_true_eq];omega
 refine aG jR (fun h2=>?_) (fun h2=>?_)
 rotate_left
 ·skip
  refine aH aPE ?_
  unfold iD at h0;unfold jA at h1;unfold jR at h2;unfold pU;simp only[bK];refine⟨rfl,?_⟩;simp only[aI];refine⟨?_,trivial⟩;simp only[nn,List.cons_append,List.nil_append,Bool.or_eq_true,aP,ne_eq]at *;generalize G 82 [l0,0,0]=c0 at *;generalize G 82 [l0,0,1]=c1 at *;generalize G 82 [l0,1,0]=c2 at *;generalize G 82 [l0,1,1]=c3 at *;generalize G 82 [l0,2,0]=c4 at *;generalize G 82 [l0,2,1]=c5 at *;generalize G 82 [l0,3,0]=c6 at *;generalize G 82 [l0,3,1]=c7 at *;(try simp only[Bool.and_eq_true,Bool.or_eq_true,decide_eq_true_eq]at *);rw[Bool.eq_iff_iff];simp only[Bool.and_eq_true,Bool.or_eq_true,decide_eq_true_eq];omega
 refine aG kK (fun h3=>?_) (fun h3=>?_)
 ·skip
  refine aH aTM ?_
  unfold iD at h0;unfold jA at h1;unfold jR at h2;unfold kK at h3;unfold aBT;simp only[bK];refine⟨rfl,?_⟩;simp only[aI];refine⟨?_,trivial⟩;simp only[nn,List.cons_append,List.nil_append,Bool.or_eq_true,aP,ne_eq]at *;generalize G 82 [l0,0,0]=c0 at *;generalize G 82 [l0,0,1]=c1 at *;generalize G 82 [l0,1,0]=c2 at *;generalize G 82 [l0,1,1]=c3 at *;generalize G 82 [l0,2,0]=c4 at *;generalize G 82 [l0,2,1]=c5 at *;generalize G 82 [l0,3,0]=c6 at *;generalize G 82 [l0,3,1]=c7 at *;(try simp only[Bool.and_eq_true,Bool.or_eq_true,decide_eq_true_eq]at *);rw[Bool.eq_iff_iff];simp only[Bool.and_eq_true,Bool.or_eq_true,decide_eq_true_eq];omega
 refine aG lH (fun h4=>?_) (fun h4=>?_)
 ·skip
  refine aH aTS ?_
  unfold iD at h0;unfold jA at h1;unfold jR at h2;unfold kK at h3;unfold lH at h4;unfold aBT;simp only[bK];refine⟨rfl,?_⟩;simp only[aI];refine⟨?_,trivial⟩;simp only[nn,List.cons_append,List.nil_append,Bool.or_eq_true,aP,ne_eq]at *;generalize G 82 [l0,0,0]=c0 at *;generalize G 82 [l0,0,1]=c1 at *;generalize G 82 [l0,1,0]=c2 at *;generalize G 82 [l0,1,1]=c3 at *;generalize G 82 [l0,2,0]=c4 at *;generalize G 82 [l0,2,1]=c5 at *;generalize G 82 [l0,3,0]=c6 at *;generalize G 82 [l0,3,1]=c7 at *;(try simp only[Bool.and_eq_true,Bool.or_eq_true,decide_eq_true_eq]at *);rw[Bool.eq_iff_iff];simp only[Bool.and_eq_true,Bool.or_eq_true,decide_eq_true_eq];omega
 refine aG mE (fun h5=>?_) (fun h5=>?_)
 rotate_left
 ·skip
  refine aH aQi ?_
  unfold iD at h0;unfold jA at h1;unfold jR at h2;unfold kK at h3;unfold lH at h4;unfold mE at h5;unfold pU;simp only[bK];refine⟨rfl,?_⟩;simp only[aI];refine⟨?_,trivial⟩;simp only[nn,List.cons_append,List.nil_append,Bool.or_eq_true,aP,ne_eq]at *;generalize G 82 [l0,0,0]=c0 at *;generalize G 82 [l0,0,1]=c1 at *;generalize G 82 [l0,1,0]=c2 at *;generalize G 82 [l0,1,1]=c3 at *;generalize G 82 [l0,2,0]=c4 at *;generalize G 82 [l0,2,1]=c5 at *;generalize G 82 [l0,3,0]=c6 at *;generalize G 82 [l0,3,1]=c7 at *;(try simp only[Bool.and_eq_true,Bool.or_eq_true,decide_eq_true_eq]at *);rw[Bool.eq_iff_iff];simp only[Bool.and_eq_true,Bool.or_eq_true,decide_eq_true_eq];omega
 refine aG nZ (fun h6=>?_) (fun h6=>?_)
 ·skip
  refine aH aOl ?_
  unfold iD at h0;unfold jA at h1;unfold jR at h2;unfold kK at h3;unfold lH at h4;unfold mE at h5;unfold nZ at h6;unfold aBz;simp only[bK];refine⟨rfl,?_⟩;simp only[aI];refine⟨?_,trivial⟩;simp only[nn,List.cons_append,List.nil_append,Bool.or_eq_true,aP,ne_eq]at *;generalize G 82 [l0,0,0]=c0 at *;generalize G 82 [l0,0,1]=c1 at *;generalize G 82 [l0,1,0]=c2 at *;generalize G 82 [l0,1,1]=c3 at *;generalize G 82 [l0,2,0]=c4 at *;generalize G 82 [l0,2,1]=c5 at *;generalize G 82 [l0,3,0]=c6 at *;generalize G 82 [l0,3,1]=c7 at *;(try simp only[Bool.and_eq_true,Bool.or_eq_true,decide_eq_true_eq]at *);rw[Bool.eq_iff_iff];simp only[Bool.and_eq_true,Bool.or_eq_true,decide_eq_true_eq];omega
 refine aG pG (fun h7=>?_) (fun h7=>?_)
 ·skip
  refine aH aPf ?_
  unfold iD at h0;unfold jA at h1;unfold jR at h2;unfold kK at h3;unfold lH at h4;unfold mE at h5;unfold nZ at h6;unfold pG at h7;unfold aBz;simp only[bK];refine⟨rfl,?_⟩;simp only[aI];refine⟨?_,trivial⟩;simp only[nn,List.cons_append,List.nil_append,Bool.or_eq_true,aP,ne_eq]at *;generalize G 82 [l0,0,0]=c0 at *;generalize G 82 [l0,0,1]=c1 at *;generalize G 82 [l0,1,0]=c2 at *;generalize G 82 [l0,1,1]=c3 at *;generalize G 82 [l0,2,0]=c4 at *;generalize G 82 [l0,2,1]=c5 at *;generalize G 82 [l0,3,0]=c6 at *;generalize G 82 [l0,3,1]=c7 at *;(try simp only[Bool.and_eq_true,Bool.or_eq_true,decide_eq_true_eq]at *);rw[Bool.eq_iff_iff];simp only[Bool.and_eq_true,Bool.or_eq_true,decide_eq_true_eq];omega
 refine aG sD (fun h8=>?_) (fun h8=>?_)
 rotate_left
 ·skip
  refine aH aPh ?_
  unfold iD at h0;unfold jA at h1;unfold jR at h2;unfold kK at h3;unfold lH at h4;unfold mE at h5;unfold nZ at h6;unfold pG at h7;unfold sD at h8;unfold pU;simp only[bK];refine⟨rfl,?_⟩;simp only[aI];refine⟨?_,trivial⟩;simp only[nn,List.cons_append,List.nil_append,Bool.or_eq_true,aP,ne_eq]at *;generalize G 82 [l0,0,0]=c0 at *;generalize G 82 [l0,0,1]=c1 at *;generalize G 82 [l0,1,0]=c2 at *;generalize G 82 [l0,1,1]=c3 at *;generalize G 82 [l0,2,0]=c4 at *;generalize G 82 [l0,2,1]=c5 at *;generalize G 82 [l0,3,0]=c6 at *;generalize G 82 [l0,3,1]=c7 at *;(try simp only[Bool.and_eq_true,Bool.or_eq_true,decide_eq_true_eq]at *);rw[Bool.eq_iff_iff];simp only[Bool.and_eq_true,Bool.or_eq_true,decide_eq_true_eq];omega
 refine aG uQ (fun h9=>?_) (fun h9=>?_)
 ·skip
  refine aH aQH ?_
  unfold iD at h0;unfold jA at h1;unfold jR at h2;unfold kK at h3;unfold lH at h4;unfold mE at h5;unfold nZ at h6;unfold pG at h7;unfold sD at h8;unfold uQ at h9;unfold aCL;simp only[bK];refine⟨rfl,?_⟩;simp only[aI];refine⟨?_,trivial⟩;simp only[nn,List.cons_append,List.nil_append,Bool.or_eq_true,aP,ne_eq]at *;generalize G 82 [l0,0,0]=c0 at *;generalize G 82 [l0,0,1]=c1 at *;generalize G 82 [l0,1,0]=c2 at *;generalize G 82 [l0,1,1]=c3 at *;generalize G 82 [l0,2,0]=c4 at *;generalize G 82 [l0,2,1]=c5 at *;generalize G 82 [l0,3,0]=c6 at *;generalize G 82 [l0,3,1]=c7 at *;(try simp only[Bool.and_eq_true,Bool.or_eq_true,decide_eq_true_eq]at *);rw[Bool.eq_iff_iff];simp only[Bool.and_eq_true,Bool.or_eq_true,decide_eq_true_eq];omega
 refine aG tL (fun h10=>?_) (fun h10=>?_)
 ·skip
  refine aH aQ2 ?_
  unfold iD at h0;unfold jA at h1;unfold jR at h2;unfold kK at h3;unfold lH at h4;unfold mE at h5;unfold nZ at h6;unfold pG at h7;unfold sD at h8;unfold uQ at h9;unfold tL at h10;unfold aCL;simp only[bK];refine⟨rfl,?_⟩;simp only[aI];refine⟨?_,trivial⟩;simp only[nn,List.cons_append,List.nil_append,Bool.or_eq_true,aP,ne_eq]at *;generalize G 82 [l0,0,0]=c0 at *;generalize G 82 [l0,0,1]=c1 at *;generalize G 82 [l0,1,0]=c2 at *;generalize G 82 [l0,1,1]=c3 at *;generalize G 82 [l0,2,0]=c4 at *;generalize G 82 [l0,2,1]=c5 at *;generalize G 82 [l0,3,0]=c6 at *;generalize G 82 [l0,3,1]=c7 at *;(try simp only[Bool.and_eq_true,Bool.or_eq_true,decide_eq_true_eq]at *);rw[Bool.eq_iff_iff];simp only[Bool.and_eq_true,Bool.or_eq_true,decide_eq_true_eq];omega
 refine aH aPv ?_
 unfold iD at h0;unfold jA at h1;unfold jR at h2;unfold kK at h3;unfold lH at h4;unfold mE at h5;unfold nZ at h6;unfold pG at h7;unfold sD at h8;unfold uQ at h9;unfold tL at h10;unfold pU;simp only[bK];refine⟨rfl,?_⟩;simp only[aI];refine⟨?_,trivial⟩;simp only[nn,List.cons_append,List.nil_append,Bool.or_eq_true,aP,ne_eq]at *;generalize G 82 [l0,0,0]=c0 at *;generalize G 82 [l0,0,1]=c1 at *;generalize G 82 [l0,1,0]=c2 at *;generalize G 82 [l0,1,1]=c3 at *;generalize G 82 [l0,2,0]=c4 at *;generalize G 82 [l0,2,1]=c5 at *;generalize G 82 [l0,3,0]=c6 at *;generalize G 82 [l0,3,1]=c7 at *;(try simp only[Bool.and_eq_true,Bool.or_eq_true,decide_eq_true_eq]at *);rw[Bool.eq_iff_iff];simp only[Bool.and_eq_true,Bool.or_eq_true,decide_eq_true_eq];omega
def aD3:Ctx→List SV→aM→Res (SV × aM):=dW GB [(1,4)] 1 (.lit true) aTo
theorem aWk {X:Ctx} {ρ:Nat→Int} (hX:X.Ok ρ) (hG:X.G=G):eV Try.prog X ρ GB 91 aD3:=by
 obtain⟨XG,XI,XV,XF⟩:=X
 simp only at hG
 subst hG
 refine cU hX ?_
 intro xs ls hw hl hp
 obtain⟨x0,y0,e0,b0,h0⟩:=aY hw
 have e1:=jJ h0
 subst e1 e0
 obtain⟨l0,z0,q0,hl0⟩:=bJ hl
 have q1:=List.length_eq_zero_iff.1 hl0
 subst q1 q0
 exact aTP x0 l0 b0
set_option maxHeartbeats 8000000 in
set_option maxRecDepth 100000 in
theorem aVC (x0 l0:Int) (b0:1≤x0∧x0≤4):fX Try.prog G GB 91 aSW (cQ ([x0]++[l0])):=by
 refine cY (lp:=dO) (run:=aMh Try.prog) (fun _=>rfl) fits (bP (xs:=[x0]) (ls:=[l0]) (by exact⟨b0,trivial⟩)) eU (fun X hX hG=>dA hX hG) (fun X hX hG fn c hf hc=>cF) rfl ?_
 refine aG lA (fun h0=>?_) (fun h0=>?_)
 ·skip
  refine aH aS0 ?_
  unfold lA at h0;unfold aMz;simp only[bK];refine⟨rfl,?_⟩;simp only[aI];refine⟨?_,trivial⟩;simp only[nn,List.cons_append,List.nil_append,Bool.or_eq_true,aP,ne_eq]at *;generalize G 82 [l0,0,0]=c0 at *;generalize G 82 [l0,0,1]=c1 at *;generalize G 82 [l0,1,0]=c2 at *;generalize G 82 [l0,1,1]=c3 at *;generalize G 82 [l0,2,0]=c4 at *;generalize G 82 [l0,2,1]=c5 at *;generalize G 82 [l0,3,0]=c6 at *;generalize G 82 [l0,3,1]=c7 at *;(try simp only[Bool.and_eq_true,Bool.or_eq_true,decide_eq_true_eq]at *);rw[Bool.eq_iff_iff];simp only[Bool.and_eq_true,Bool.or_eq_true,decide_eq_true_eq];omega
 refine aG mN (fun h1=>?_) (fun h1=>?_)
 rotate_left
 ·skip
  refine aH aPA ?_
  unfold lA at h0;unfold mN at h1;unfold pY;simp only[bK];refine⟨rfl,?_⟩;simp only[aI];refine⟨?_,trivial⟩;simp only[nn,List.cons_append,List.nil_append,Bool.or_eq_true,aP,ne_eq]at *;generalize G 82 [l0,0,0]=c0 at *;generalize G 82 [l0,0,1]=c1 at *;generalize G 82 [l0,1,0]=c2 at *;generalize G 82 [l0,1,1]=c3 at *;generalize G 82 [l0,2,0]=c4 at *;generalize G 82 [l0,2,1]=c5 at *;generalize G 82 [l0,3,0]=c6 at *;generalize G 82 [l0,3,1]=c7 at *;(try simp only[Bool.and_eq_true,Bool.or_eq_true,decide_eq_true_eq]at *);rw[Bool.eq_iff_iff];simp only[Bool.and_eq_true,Bool.or_eq_true,decide_eq_true_eq];omega
 refine aG oL (fun h2=>?_) (fun h2=>?_)
 ·skip
  refine aH aUc ?_
  unfold lA at h0;unfold mN at h1;unfold oL at h2;unfold aJY;simp only[bK];refine⟨rfl,?_⟩;simp only[aI];refine⟨?_,trivial⟩;simp only[nn,List.cons_append,List.nil_append,Bool.or_eq_true,aP,ne_eq]at *;generalize G 82 [l0,0,0]=c0 at *;generalize G 82 [l0,0,1]=c1 at *;generalize G 82 [l0,1,0]=c2 at *;generalize G 82 [l0,1,1]=c3 at *;generalize G 82 [l0,2,0]=c4 at *;generalize G 82 [l0,2,1]=c5 at *;generalize G 82 [l0,3,0]=c6 at *;generalize G 82 [l0,3,1]=c7 at *;(try simp only[Bool.and_eq_true,Bool.or_eq_true,decide_eq_true_eq]at *);rw[Bool.eq_iff_iff];simp only[Bool.and_eq_true,Bool.or_eq_true,decide_eq_true_eq];omega
 refine aG pH (fun h3=>?_) (fun h3=>?_)
 rotate_left
 ·skip
  refine aH aNo ?_
  unfold lA at h0;unfold mN at h1;unfold oL at h2;unfold pH at h3;unfold pY;simp only[bK];refine⟨rfl,?_⟩;simp only[aI];refine⟨?_,trivial⟩;simp only[nn,List.cons_append,List.nil_append,Bool.or_eq_true,aP,ne_eq]at *;generalize G 82 [l0,0,0]=c0 at *;generalize G 82 [l0,0,1]=c1 at *;generalize G 82 [l0,1,0]=c2 at *;generalize G 82 [l0,1,1]=c3 at *;generalize G 82 [l0,2,0]=c4 at *;generalize G 82 [l0,2,1]=c5 at *;generalize G 82 [l0,3,0]=c6 at *;generalize G 82 [l0,3,1]=c7 at *;(try simp only[Bool.and_eq_true,Bool.or_eq_true,decide_eq_true_eq]at *);rw[Bool.eq_iff_iff];simp only[Bool.and_eq_true,Bool.or_eq_true,decide_eq_true_eq];omega
 refine aG sB (fun h4=>?_) (fun h4=>?_)
 ·skip
  refine aH aUA ?_
  unfold lA at h0;unfold mN at h1;unfold oL at h2;unfold pH at h3;unfold sB at h4;unfold aL6;simp only[bK];refine⟨rfl,?_⟩;simp only[aI];refine⟨?_,trivial⟩;simp only[nn,List.cons_append,List.nil_append,Bool.or_eq_true,aP,ne_eq]at *;generalize G 82 [l0,0,0]=c0 at *;generalize G 82 [l0,0,1]=c1 at *;generalize G 82 [l0,1,0]=c2 at *;generalize G 82 [l0,1,1]=c3 at *;generalize G 82 [l0,2,0]=c4 at *;generalize G 82 [l0,2,1]=c5 at *;generalize G 82 [l0,3,0]=c6 at *;generalize G 82 [l0,3,1]=c7 at *;(try simp only[Bool.and_eq_true,Bool.or_eq_true,decide_eq_true_eq]at *);rw[Bool.eq_iff_iff];simp only[Bool.and_eq_true,Bool.or_eq_true,decide_eq_true_eq];omega
 refine aG uN (fun h5=>?_) (fun h5=>?_)
 rotate_left
 ·skip
  refine aH aPt ?_
  unfold lA at h0;unfold mN at h1;unfold oL at h2;unfold pH at h3;unfold sB at h4;unfold uN at h5;unfold pY;simp only[bK];refine⟨rfl,?_⟩;simp only[aI];refine⟨?_,trivial⟩;simp only[nn,List.cons_append,List.nil_append,Bool.or_eq_true,aP,ne_eq]at *;generalize G 82 [l0,0,0]=c0 at *;generalize G 82 [l0,0,1]=c1 at *;generalize G 82 [l0,1,0]=c2 at *;generalize G 82 [l0,1,1]=c3 at *;generalize G 82 [l0,2,0]=c4 at *;generalize G 82 [l0,2,1]=c5 at *;generalize G 82 [l0,3,0]=c6 at *;generalize G 82 [l0,3,1]=c7 at *;(try simp only[Bool.and_eq_true,Bool.or_eq_true,decide_eq_true_eq]at *);rw[Bool.eq_iff_iff];simp only[Bool.and_eq_true,Bool.or_eq_true,decide_eq_true_eq];omega
 refine aG xK (fun h6=>?_) (fun h6=>?_)
 ·skip
  refine aH aPW ?_
  unfold lA at h0;unfold mN at h1;unfold oL at h2;unfold pH at h3;unfold sB at h4;unfold uN at h5;unfold xK at h6;unfold aK3;simp only[bK];refine⟨rfl,?_⟩;simp only[aI];refine⟨?_,trivial⟩;simp only[nn,List.cons_append,List.nil_append,Bool.or_eq_true,aP,ne_eq]at *;generalize G 82 [l0,0,0]=c0 at *;generalize G 82 [l0,0,1]=c1 at *;generalize G 82 [l0,1,0]=c2 at *;generalize G 82 [l0,1,1]=c3 at *;generalize G 82 [l0,2,0]=c4 at *;generalize G 82 [l0,2,1]=c5 at *;generalize G 82 [l0,3,0]=c6 at *;generalize G 82 [l0,3,1]=c7 at *;(try simp only[Bool.and_eq_true,Bool.or_eq_true,decide_eq_true_eq]at *);rw[Bool.eq_iff_iff];simp only[Bool.and_eq_true,Bool.or_eq_true,decide_eq_true_eq];omega
 refine aH aNP ?_
 unfold lA at h0;unfold mN at h1;unfold oL at h2;unfold pH at h3;unfold sB at h4;unfold uN at h5;unfold xK at h6;unfold pY;simp only[bK];refine⟨rfl,?_⟩;simp only[aI];refine⟨?_,trivial⟩;simp only[nn,List.cons_append,List.nil_append,Bool.or_eq_true,aP,ne_eq]at *;generalize G 82 [l0,0,0]=c0 at *;generalize G 82 [l0,0,1]=c1 at *;generalize G 82 [l0,1,0]=c2 at *;generalize G 82 [l0,1,1]=c3 at *;generalize G 82 [l0,2,0]=c4 at *;generalize G 82 [l0,2,1]=c5 at *;generalize G 82 [l0,3,0]=c6 at *;generalize G 82 [l0,3,1]=c7 at *;(try simp only[Bool.and_eq_true,Bool.or_eq_true,decide_eq_true_eq]at *);rw[Bool.eq_iff_iff];simp only[Bool.and_eq_true,Bool.or_eq_true,decide_eq_true_eq];omega
def aD6:Ctx→List SV→aM→Res (SV × aM):=dW GB [(1,4)] 1 (.lit true) aSW
theorem aVI {X:Ctx} {ρ:Nat→Int} (hX:X.Ok ρ) (hG:X.G=G):eV Try.prog X ρ GB 91 aD6:=by
 obtain⟨XG,XI,XV,XF⟩:=X
 simp only at hG
 subst hG
 refine cU hX ?_
 intro xs ls hw hl hp
 obtain⟨x0,y0,e0,b0,h0⟩:=aY hw
 have e1:=jJ h0
 subst e1 e0
 obtain⟨l0,z0,q0,hl0⟩:=bJ hl
 have q1:=List.length_eq_zero_iff.1 hl0
 subst q1 q0
 exact aVC x0 l0 b0
set_option maxHeartbeats 8000000 in
set_option maxRecDepth 100000 in
theorem aS5 (x0 l0:Int) (b0:0≤x0∧x0≤8):fX Try.prog G GB 70 aS2 (cQ ([x0]++[l0])):=by
 refine cY (lp:=dO) (run:=aMP Try.prog) (fun _=>rfl) fits (bP (xs:=[x0]) (ls:=[l0]) (by exact⟨b0,trivial⟩)) eU (fun X hX hG=>dA hX hG) (fun X hX hG fn c hf hc=>cF) rfl ?_
 refine aG dD (fun h0=>?_) (fun h0=>?_)
 rotate_left
 ·skip
  refine aH aQL ?_
  unfold dD at h0;unfold fM;simp only[bK];refine⟨rfl,?_⟩;simp only[aI];refine⟨?_,trivial⟩;simp only[nn,List.cons_append,List.nil_append,Bool.or_eq_true,aP,ne_eq]at *;generalize G 83 [l0,0,0]=c0 at *;generalize G 83 [l0,1,0]=c1 at *;generalize G 83 [l0,2,0]=c2 at *;generalize G 83 [l0,3,0]=c3 at *;generalize G 83 [l0,4,0]=c4 at *;generalize G 83 [l0,5,0]=c5 at *;generalize G 83 [l0,6,0]=c6 at *;generalize G 83 [l0,7,0]=c7 at *;(try simp only[Bool.and_eq_true,Bool.or_eq_true,decide_eq_true_eq]at *);rw[Bool.eq_iff_iff];simp only[Bool.and_eq_true,Bool.or_eq_true,decide_eq_true_eq];omega
 refine aG dH (fun h1=>?_) (fun h1=>?_)
 ·skip
  refine aH aUg ?_
  unfold dD at h0;unfold dH at h1;unfold aCx;simp only[bK];refine⟨rfl,?_⟩;simp only[aI];refine⟨?_,trivial⟩;simp only[nn,List.cons_append,List.nil_append,Bool.or_eq_true,aP,ne_eq]at *;generalize G 83 [l0,0,0]=c0 at *;generalize G 83 [l0,1,0]=c1 at *;generalize G 83 [l0,2,0]=c2 at *;generalize G 83 [l0,3,0]=c3 at *;generalize G 83 [l0,4,0]=c4 at *;generalize G 83 [l0,5,0]=c5 at *;generalize G 83 [l0,6,0]=c6 at *;generalize G 83 [l0,7,0]=c7 at *;(try simp only[Bool.and_eq_true,Bool.or_eq_true,decide_eq_true_eq]at *);rw[Bool.eq_iff_iff];simp only[Bool.and_eq_true,Bool.or_eq_true,decide_eq_true_eq];omega
 refine aG dJ (fun h2=>?_) (fun h2=>?_)
 ·skip
  refine aH aUF ?_
  unfold dD at h0;unfold dH at h1;unfold dJ at h2;unfold aCx;simp only[bK];refine⟨rfl,?_⟩;simp only[aI];refine⟨?_,trivial⟩;simp only[nn,List.cons_append,List.nil_append,Bool.or_eq_true,aP,ne_eq]at *;generalize G 83 [l0,0,0]=c0 at *;generalize G 83 [l0,1,0]=c1 at *;generalize G 83 [l0,2,0]=c2 at *;generalize G 83 [l0,3,0]=c3 at *;generalize G 83 [l0,4,0]=c4 at *;generalize G 83 [l0,5,0]=c5 at *;generalize G 83 [l0,6,0]=c6 at *;generalize G 83 [l0,7,0]=c7 at *;(try simp only[Bool.and_eq_true,Bool.or_eq_true,decide_eq_true_eq]at *);rw[Bool.eq_iff_iff];simp only[Bool.and_eq_true,Bool.or_eq_true,decide_eq_true_eq];omega
 refine aG dL (fun h3=>?_) (fun h3=>?_)
 rotate_left
 ·skip
  refine aH aSd ?_
  unfold dD at h0;unfold dH at h1;unfold dJ at h2;unfold dL at h3;unfold fM;simp only[bK];refine⟨rfl,?_⟩;simp only[aI];refine⟨?_,trivial⟩;simp only[nn,List.cons_append,List.nil_append,Bool.or_eq_true,aP,ne_eq]at *;generalize G 83 [l0,0,0]=c0 at *;generalize G 83 [l0,1,0]=c1 at *;generalize G 83 [l0,2,0]=c2 at *;generalize G 83 [l0,3,0]=c3 at *;generalize G 83 [l0,4,0]=c4 at *;generalize G 83 [l0,5,0]=c5 at *;generalize G 83 [l0,6,0]=c6 at *;generalize G 83 [l0,7,0]=c7 at *;(try simp only[Bool.and_eq_true,Bool.or_eq_true,decide_eq_true_eq]at *);rw[Bool.eq_iff_iff];simp only[Bool.and_eq_true,Bool.or_eq_true,decide_eq_true_eq];omega
 refine aG dR (fun h4=>?_) (fun h4=>?_)
 ·skip
  refine aH aS1 ?_
  unfold dD at h0;unfold dH at h1;unfold dJ at h2;unfold dL at h3;unfold dR at h4;unfold aBE;simp only[bK];refine⟨rfl,?_⟩;simp only[aI];refine⟨?_,trivial⟩;simp only[nn,List.cons_append,List.nil_append,Bool.or_eq_true,aP,ne_eq]at *;generalize G 83 [l0,0,0]=c0 at *;generalize G 83 [l0,1,0]=c1 at *;generalize G 83 [l0,2,0]=c2 at *;generalize G 83 [l0,3,0]=c3 at *;generalize G 83 [l0,4,0]=c4 at *;generalize G 83 [l0,5,0]=c5 at *;generalize G 83 [l0,6,0]=c6 at *;generalize G 83 [l0,7,0]=c7 at *;(try simp only[Bool.and_eq_true,Bool.or_eq_true,decide_eq_true_eq]at *);rw[Bool.eq_iff_iff];simp only[Bool.and_eq_true,Bool.or_eq_true,decide_eq_true_eq];omega
 refine aG dV (fun h5=>?_) (fun h5=>?_)
 ·skip
  refine aH aVi ?_
  unfold dD at h0;unfold dH at h1;unfold dJ at h2;unfold dL at h3;unfold dR at h4;unfold dV at h5;unfold aBE;simp only[bK];refine⟨rfl,?_⟩;simp only[aI];refine⟨?_,trivial⟩;simp only[nn,List.cons_append,List.nil_append,Bool.or_eq_true,aP,ne_eq]at *;generalize G 83 [l0,0,0]=c0 at *;generalize G 83 [l0,1,0]=c1 at *;generalize G 83 [l0,2,0]=c2 at *;generalize G 83 [l0,3,0]=c3 at *;generalize G 83 [l0,4,0]=c4 at *;generalize G 83 [l0,5,0]=c5 at *;generalize G 83 [l0,6,0]=c6 at *;generalize G 83 [l0,7,0]=c7 at *;(try simp only[Bool.and_eq_true,Bool.or_eq_true,decide_eq_true_eq]at *);rw[Bool.eq_iff_iff];simp only[Bool.and_eq_true,Bool.or_eq_true,decide_eq_true_eq];omega
 refine aG eE (fun h6=>?_) (fun h6=>?_)
 rotate_left
 ·skip
  refine aH aOy ?_
  unfold dD at h0;unfold dH at h1;unfold dJ at h2;unfold dL at h3;unfold dR at h4;unfold dV at h5;unfold eE at h6;unfold fM;simp only[bK];refine⟨rfl,?_⟩;simp only[aI];refine⟨?_,trivial⟩;simp only[nn,List.cons_append,List.nil_append,Bool.or_eq_true,aP,ne_eq]at *;generalize G 83 [l0,0,0]=c0 at *;generalize G 83 [l0,1,0]=c1 at *;generalize G 83 [l0,2,0]=c2 at *;generalize G 83 [l0,3,0]=c3 at *;generalize G 83 [l0,4,0]=c4 at *;generalize G 83 [l0,5,0]=c5 at *;generalize G 83 [l0,6,0]=c6 at *;generalize G 83 [l0,7,0]=c7 at *;(try simp only[Bool.and_eq_true,Bool.or_eq_true,decide_eq_true_eq]at *);rw[Bool.eq_iff_iff];simp only[Bool.and_eq_true,Bool.or_eq_true,decide_eq_true_eq];omega
 refine aG eL (fun h7=>?_) (fun h7=>?_)
 ·skip
  refine aH aP2 ?_
  unfold dD at h0;unfold dH at h1;unfold dJ at h2;unfold dL at h3;unfold dR at h4;unfold dV at h5;unfold eE at h6;unfold eL at h7;unfold aBo;simp only[bK];refine⟨rfl,?_⟩;simp only[aI];refine⟨?_,trivial⟩;simp only[nn,List.cons_append,List.nil_append,Bool.or_eq_true,aP,ne_eq]at *;generalize G 83 [l0,0,0]=c0 at *;generalize G 83 [l0,1,0]=c1 at *;generalize G 83 [l0,2,0]=c2 at *;generalize G 83 [l0,3,0]=c3 at *;generalize G 83 [l0,4,0]=c4 at *;generalize G 83 [l0,5,0]=c5 at *;generalize G 83 [l0,6,0]=c6 at *;generalize G 83 [l0,7,0]=c7 at *;(try simp only[Bool.and_eq_true,Bool.or_eq_true,decide_eq_true_eq]at *);rw[Bool.eq_iff_iff];simp only[Bool.and_eq_true,Bool.or_eq_true,decide_eq_true_eq];omega
 refine aG eR (fun h8=>?_) (fun h8=>?_)
 ·skip
  refine aH aM6 ?_
  unfold dD at h0;unfold dH at h1;unfold dJ at h2;unfold dL at h3;unfold dR at h4;unfold dV at h5;unfold eE at h6;unfold eL at h7;unfold eR at h8;unfold aBo;simp only[bK];refine⟨rfl,?_⟩;simp only[aI];refine⟨?_,trivial⟩;simp only[nn,List.cons_append,List.nil_append,Bool.or_eq_true,aP,ne_eq]at *;generalize G 83 [l0,0,0]=c0 at *;generalize G 83 [l0,1,0]=c1 at *;generalize G 83 [l0,2,0]=c2 at *;generalize G 83 [l0,3,0]=c3 at *;generalize G 83 [l0,4,0]=c4 at *;generalize G 83 [l0,5,0]=c5 at *;generalize G 83 [l0,6,0]=c6 at *;generalize G 83 [l0,7,0]=c7 at *;(try simp only[Bool.and_eq_true,Bool.or_eq_true,decide_eq_true_eq]at *);rw[Bool.eq_iff_iff];simp only[Bool.and_eq_true,Bool.or_eq_true,decide_eq_true_eq];omega
 refine aG eZ (fun h9=>?_) (fun h9=>?_)
 rotate_left
 ·skip
  refine aH aRO ?_
  unfold dD at h0;unfold dH at h1;unfold dJ at h2;unfold dL at h3;unfold dR at h4;unfold dV at h5;unfold eE at h6;unfold eL at h7;unfold eR at h8;unfold eZ at h9;unfold fM;simp only[bK];refine⟨rfl,?_⟩;simp only[aI];refine⟨?_,trivial⟩;simp only[nn,List.cons_append,List.nil_append,Bool.or_eq_true,aP,ne_eq]at *;generalize G 83 [l0,0,0]=c0 at *;generalize G 83 [l0,1,0]=c1 at *;generalize G 83 [l0,2,0]=c2 at *;generalize G 83 [l0,3,0]=c3 at *;generalize G 83 [l0,4,0]=c4 at *;generalize G 83 [l0,5,0]=c5 at *;generalize G 83 [l0,6,0]=c6 at *;generalize G 83 [l0,7,0]=c7 at *;(try simp only[Bool.and_eq_true,Bool.or_eq_true,decide_eq_true_eq]at *);rw[Bool.eq_iff_iff];simp only[Bool.and_eq_true,Bool.or_eq_true,decide_eq_true_eq];omega
 refine aG eB (fun h10=>?_) (fun h10=>?_)
 ·skip
  refine aH aN6 ?_
  unfold dD at h0;unfold dH at h1;unfold dJ at h2;unfold dL at h3;unfold dR at h4;unfold dV at h5;unfold eE at h6;unfold eL at h7;unfold eR at h8;unfold eZ at h9;unfold eB at h10;unfold aCV;simp only[bK];refine⟨rfl,?_⟩;simp only[aI];refine⟨?_,trivial⟩;simp only[nn,List.cons_append,List.nil_append,Bool.or_eq_true,aP,ne_eq]at *;generalize G 83 [l0,0,0]=c0 at *;generalize G 83 [l0,1,0]=c1 at *;generalize G 83 [l0,2,0]=c2 at *;generalize G 83 [l0,3,0]=c3 at *;generalize G 83 [l0,4,0]=c4 at *;generalize G 83 [l0,5,0]=c5 at *;generalize G 83 [l0,6,0]=c6 at *;generalize G 83 [l0,7,0]=c7 at *;(try simp only[Bool.and_eq_true,Bool.or_eq_true,decide_eq_true_eq]at *);rw[Bool.eq_iff_iff];simp only[Bool.and_eq_true,Bool.or_eq_true,decide_eq_true_eq];omega
 refine aG eI (fun h11=>?_) (fun h11=>?_)
 ·skip
  refine aH aPX ?_
  unfold dD at h0;unfold dH at h1;unfold dJ at h2;unfold dL at h3;unfold dR at h4;unfold dV at h5;unfold eE at h6;unfold eL at h7;unfold eR at h8;unfold eZ at h9;unfold eB at h10;unfold eI at h11;unfold aCV;simp only[bK];refine⟨rfl,?_⟩;simp only[aI];refine⟨?_,trivial⟩;simp only[nn,List.cons_append,List.nil_append,Bool.or_eq_true,aP,ne_eq]at *;generalize G 83 [l0,0,0]=c0 at *;generalize G 83 [l0,1,0]=c1 at *;generalize G 83 [l0,2,0]=c2 at *;generalize G 83 [l0,3,0]=c3 at *;generalize G 83 [l0,4,0]=c4 at *;generalize G 83 [l0,5,0]=c5 at *;generalize G 83 [l0,6,0]=c6 at *;generalize G 83 [l0,7,0]=c7 at *;(try simp only[Bool.and_eq_true,Bool.or_eq_true,decide_eq_true_eq]at *);rw[Bool.eq_iff_iff];simp only[Bool.and_eq_true,Bool.or_eq_true,decide_eq_true_eq];omega
 refine aG eP (fun h12=>?_) (fun h12=>?_)
 rotate_left
 ·skip
  refine aH aQC ?_
  unfold dD at h0;unfold dH at h1;unfold dJ at h2;unfold dL at h3;unfold dR at h4;unfold dV at h5;unfold eE at h6;unfold eL at h7;unfold eR at h8;unfold eZ at h9;unfold eB at h10;unfold eI at h11;unfold eP at h12;unfold fM;simp only[bK];refine⟨rfl,?_⟩;simp only[aI];refine⟨?_,trivial⟩;simp only[nn,List.cons_append,List.nil_append,Bool.or_eq_true,aP,ne_eq]at *;generalize G 83 [l0,0,0]=c0 at *;generalize G 83 [l0,1,0]=c1 at *;generalize G 83 [l0,2,0]=c2 at *;generalize G 83 [l0,3,0]=c3 at *;generalize G 83 [l0,4,0]=c4 at *;generalize G 83 [l0,5,0]=c5 at *;generalize G 83 [l0,6,0]=c6 at *;generalize G 83 [l0,7,0]=c7 at *;(try simp only[Bool.and_eq_true,Bool.or_eq_true,decide_eq_true_eq]at *);rw[Bool.eq_iff_iff];simp only[Bool.and_eq_true,Bool.or_eq_true,decide_eq_true_eq];omega
 refine aG fB (fun h13=>?_) (fun h13=>?_)
 ·skip
  refine aH aNx ?_
  unfold dD at h0;unfold dH at h1;unfold dJ at h2;unfold dL at h3;unfold dR at h4;unfold dV at h5;unfold eE at h6;unfold eL at h7;unfold eR at h8;unfold eZ at h9;unfold eB at h10;unfold eI at h11;unfold eP at h12;unfold fB at h13;unfold aBD;simp only[bK];refine⟨rfl,?_⟩;simp only[aI];refine⟨?_,trivial⟩;simp only[nn,List.cons_append,List.nil_append,Bool.or_eq_true,aP,ne_eq]at *;generalize G 83 [l0,0,0]=c0 at *;generalize G 83 [l0,1,0]=c1 at *;generalize G 83 [l0,2,0]=c2 at *;generalize G 83 [l0,3,0]=c3 at *;generalize G 83 [l0,4,0]=c4 at *;generalize G 83 [l0,5,0]=c5 at *;generalize G 83 [l0,6,0]=c6 at *;generalize G 83 [l0,7,0]=c7 at *;(try simp only[Bool.and_eq_true,Bool.or_eq_true,decide_eq_true_eq]at *);rw[Bool.eq_iff_iff];simp only[Bool.and_eq_true,Bool.or_eq_true,decide_eq_true_eq];omega
 refine aG fN (fun h14=>?_) (fun h14=>?_)
 ·skip
  refine aH aQl ?_
  unfold dD at h0;unfold dH at h1;unfold dJ at h2;unfold dL at h3;unfold dR at h4;unfold dV at h5;unfold eE at h6;unfold eL at h7;unfold eR at h8;unfold eZ at h9;unfold eB at h10;unfold eI at h11;unfold eP at h12;unfold fB at h13;unfold fN at h14;unfold aBD;simp only[bK];refine⟨rfl,?_⟩;simp only[aI];refine⟨?_,trivial⟩;simp only[nn,List.cons_append,List.nil_append,Bool.or_eq_true,aP,ne_eq]at *;generalize G 83 [l0,0,0]=c0 at *;generalize G 83 [l0,1,0]=c1 at *;generalize G 83 [l0,2,0]=c2 at *;generalize G 83 [l0,3,0]=c3 at *;generalize G 83 [l0,4,0]=c4 at *;generalize G 83 [l0,5,0]=c5 at *;generalize G 83 [l0,6,0]=c6 at *;generalize G 83 [l0,7,0]=c7 at *;(try simp only[Bool.and_eq_true,Bool.or_eq_true,decide_eq_true_eq]at *);rw[Bool.eq_iff_iff];simp only[Bool.and_eq_true,Bool.or_eq_true,decide_eq_true_eq];omega
 refine aG gD (fun h15=>?_) (fun h15=>?_)
 rotate_left
 ·skip
  refine aH aNl ?_
  unfold dD at h0;unfold dH at h1;unfold dJ at h2;unfold dL at h3;unfold dR at h4;unfold dV at h5;unfold eE at h6;unfold eL at h7;unfold eR at h8;unfold eZ at h9;unfold eB at h10;unfold eI at h11;unfold eP at h12;unfold fB at h13;unfold fN at h14;unfold gD at h15;unfold fM;simp only[bK];refine⟨rfl,?_⟩;simp only[aI];refine⟨?_,trivial⟩;simp only[nn,List.cons_append,List.nil_append,Bool.or_eq_true,aP,ne_eq]at *;generalize G 83 [l0,0,0]=c0 at *;generalize G 83 [l0,1,0]=c1 at *;generalize G 83 [l0,2,0]=c2 at *;generalize G 83 [l0,3,0]=c3 at *;generalize G 83 [l0,4,0]=c4 at *;generalize G 83 [l0,5,0]=c5 at *;generalize G 83 [l0,6,0]=c6 at *;generalize G 83 [l0,7,0]=c7 at *;(try simp only[Bool.and_eq_true,Bool.or_eq_true,decide_eq_true_eq]at *);rw[Bool.eq_iff_iff];simp only[Bool.and_eq_true,Bool.or_eq_true,decide_eq_true_eq];omega
 refine aG gO (fun h16=>?_) (fun h16=>?_)
 ·skip
  refine aH aPw ?_
  unfold dD at h0;unfold dH at h1;unfold dJ at h2;unfold dL at h3;unfold dR at h4;unfold dV at h5;unfold eE at h6;unfold eL at h7;unfold eR at h8;unfold eZ at h9;unfold eB at h10;unfold eI at h11;unfold eP at h12;unfold fB at h13;unfold fN at h14;unfold gD at h15;unfold gO at h16;unfold aCu;simp only[bK];refine⟨rfl,?_⟩;simp only[aI];refine⟨?_,trivial⟩;simp only[nn,List.cons_append,List.nil_append,Bool.or_eq_true,aP,ne_eq]at *;generalize G 83 [l0,0,0]=c0 at *;generalize G 83 [l0,1,0]=c1 at *;generalize G 83 [l0,2,0]=c2 at *;generalize G 83 [l0,3,0]=c3 at *;generalize G 83 [l0,4,0]=c4 at *;generalize G 83 [l0,5,0]=c5 at *;generalize G 83 [l0,6,0]=c6 at *;generalize G 83 [l0,7,0]=c7 at *;(try simp only[Bool.and_eq_true,Bool.or_eq_true,decide_eq_true_eq]at *);rw[Bool.eq_iff_iff];simp only[Bool.and_eq_true,Bool.or_eq_true,decide_eq_true_eq];omega
 refine aG iM (fun h17=>?_) (fun h17=>?_)
 ·skip
  refine aH aOn ?_
  unfold dD at h0;unfold dH at h1;unfold dJ at h2;unfold dL at h3;unfold dR at h4;unfold dV at h5;unfold eE at h6;unfold eL at h7;unfold eR at h8;unfold eZ at h9;unfold eB at h10;unfold eI at h11;unfold eP at h12;unfold fB at h13;unfold fN at h14;unfold gD at h15;unfold gO at h16;unfold iM at h17;unfold aCu;simp only[bK];refine⟨rfl,?_⟩;simp only[aI];refine⟨?_,trivial⟩;simp only[nn,List.cons_append,List.nil_append,Bool.or_eq_true,aP,ne_eq]at *;generalize G 83 [l0,0,0]=c0 at *;generalize G 83 [l0,1,0]=c1 at *;generalize G 83 [l0,2,0]=c2 at *;generalize G 83 [l0,3,0]=c3 at *;generalize G 83 [l0,4,0]=c4 at *;generalize G 83 [l0,5,0]=c5 at *;generalize G 83 [l0,6,0]=c6 at *;generalize G 83 [l0,7,0]=c7 at *;(try simp only[Bool.and_eq_true,Bool.or_eq_true,decide_eq_true_eq]at *);rw[Bool.eq_iff_iff];simp only[Bool.and_eq_true,Bool.or_eq_true,decide_eq_true_eq];omega
 refine aG jV (fun h18=>?_) (fun h18=>?_)
 rotate_left
 ·skip
  refine aH aOg ?_
  unfold dD at h0;unfold dH at h1;unfold dJ at h2;unfold dL at h3;unfold dR at h4;unfold dV at h5;unfold eE at h6;unfold eL at h7;unfold eR at h8;unfold eZ at h9;unfold eB at h10;unfold eI at h11;unfold eP at h12;unfold fB at h13;unfold fN at h14;unfold gD at h15;unfold gO at h16;unfold iM at h17;unfold jV at h18;unfold fM;simp only[bK];refine⟨rfl,?_⟩;simp only[aI];refine⟨?_,trivial⟩;simp only[nn,List.cons_append,List.nil_append,Bool.or_eq_true,aP,ne_eq]at *;generalize G 83 [l0,0,0]=c0 at *;generalize G 83 [l0,1,0]=c1 at *;generalize G 83 [l0,2,0]=c2 at *;generalize G 83 [l0,3,0]=c3 at *;generalize G 83 [l0,4,0]=c4 at *;generalize G 83 [l0,5,0]=c5 at *;generalize G 83 [l0,6,0]=c6 at *;generalize G 83 [l0,7,0]=c7 at *;(try simp only[Bool.and_eq_true,Bool.or_eq_true,decide_eq_true_eq]at *);rw[Bool.eq_iff_iff];simp only[Bool.and_eq_true,Bool.or_eq_true,decide_eq_true_eq];omega
 refine aG kQ (fun h19=>?_) (fun h19=>?_)
 ·skip
  refine aH aSa ?_
  unfold dD at h0;unfold dH at h1;unfold dJ at h2;unfold dL at h3;unfold dR at h4;unfold dV at h5;unfold eE at h6;unfold eL at h7;unfold eR at h8;unfold eZ at h9;unfold eB at h10;unfold eI at h11;unfold eP at h12;unfold fB at h13;unfold fN at h14;unfold gD at h15;unfold gO at h16;unfold iM at h17;unfold jV at h18;unfold kQ at h19;unfold aB4;simp only[bK];refine⟨rfl,?_⟩;simp only[aI];refine⟨?_,trivial⟩;simp only[nn,List.cons_append,List.nil_append,Bool.or_eq_true,aP,ne_eq]at *;generalize G 83 [l0,0,0]=c0 at *;generalize G 83 [l0,1,0]=c1 at *;generalize G 83 [l0,2,0]=c2 at *;generalize G 83 [l0,3,0]=c3 at *;generalize G 83 [l0,4,0]=c4 at *;generalize G 83 [l0,5,0]=c5 at *;generalize G 83 [l0,6,0]=c6 at *;generalize G 83 [l0,7,0]=c7 at *;(try simp only[Bool.and_eq_true,Bool.or_eq_true,decide_eq_true_eq]at *);rw[Bool.eq_iff_iff];simp only[Bool.and_eq_true,Bool.or_eq_true,decide_eq_true_eq];omega
 refine aG mB (fun h20=>?_) (fun h20=>?_)
 ·skip
  refine aH aOT ?_
  unfold dD at h0;unfold dH at h1;unfold dJ at h2;unfold dL at h3;unfold dR at h4;unfold dV at h5;unfold eE at h6;unfold eL at h7;unfold eR at h8;unfold eZ at h9;unfold eB at h10;unfold eI at h11;unfold eP at h12;unfold fB at h13;unfold fN at h14;unfold gD at h15;unfold gO at h16;unfold iM at h17;unfold jV at h18;unfold kQ at h19;unfold mB at h20;unfold aB4;simp only[bK];refine⟨rfl,?_⟩;simp only[aI];refine⟨?_,trivial⟩;simp only[nn,List.cons_append,List.nil_append,Bool.or_eq_true,aP,ne_eq]at *;generalize G 83 [l0,0,0]=c0 at *;generalize G 83 [l0,1,0]=c1 at *;generalize G 83 [l0,2,0]=c2 at *;generalize G 83 [l0,3,0]=c3 at *;generalize G 83 [l0,4,0]=c4 at *;generalize G 83 [l0,5,0]=c5 at *;generalize G 83 [l0,6,0]=c6 at *;generalize G 83 [l0,7,0]=c7 at *;(try simp only[Bool.and_eq_true,Bool.or_eq_true,decide_eq_true_eq]at *);rw[Bool.eq_iff_iff];simp only[Bool.and_eq_true,Bool.or_eq_true,decide_eq_true_eq];omega
 refine aG oO (fun h21=>?_) (fun h21=>?_)
 rotate_left
 ·skip
  refine aH aM4 ?_
  unfold dD at h0;unfold dH at h1;unfold dJ at h2;unfold dL at h3;unfold dR at h4;unfold dV at h5;unfold eE at h6;unfold eL at h7;unfold eR at h8;unfold eZ at h9;unfold eB at h10;unfold eI at h11;unfold eP at h12;unfold fB at h13;unfold fN at h14;unfold gD at h15;unfold gO at h16;unfold iM at h17;unfold jV at h18;unfold kQ at h19;unfold mB at h20;unfold oO at h21;unfold fM;simp only[bK];refine⟨rfl,?_⟩;simp only[aI];refine⟨?_,trivial⟩;simp only[nn,List.cons_append,List.nil_append,Bool.or_eq_true,aP,ne_eq]at *;generalize G 83 [l0,0,0]=c0 at *;generalize G 83 [l0,1,0]=c1 at *;generalize G 83 [l0,2,0]=c2 at *;generalize G 83 [l0,3,0]=c3 at *;generalize G 83 [l0,4,0]=c4 at *;generalize G 83 [l0,5,0]=c5 at *;generalize G 83 [l0,6,0]=c6 at *;generalize G 83 [l0,7,0]=c7 at *;(try simp only[Bool.and_eq_true,Bool.or_eq_true,decide_eq_true_eq]at *);rw[Bool.eq_iff_iff];simp only[Bool.and_eq_true,Bool.or_eq_true,decide_eq_true_eq];omega
 refine aG qK (fun h22=>?_) (fun h22=>?_)
 ·skip
  refine aH aSh ?_
  unfold dD at h0;unfold dH at h1;unfold dJ at h2;unfold dL at h3;unfold dR at h4;unfold dV at h5;unfold eE at h6;unfold eL at h7;unfold eR at h8;unfold eZ at h9;unfold eB at h10;unfold eI at h11;unfold eP at h12;unfold fB at h13;unfold fN at h14;unfold gD at h15;unfold gO at h16;unfold iM at h17;unfold jV at h18;unfold kQ at h19;unfold mB at h20;unfold oO at h21;unfold qK at h22;unfold aBU;simp only[bK];refine⟨rfl,?_⟩;simp only[aI];refine⟨?_,trivial⟩;simp only[nn,List.cons_append,List.nil_append,Bool.or_eq_true,aP,ne_eq]at *;generalize G 83 [l0,0,0]=c0 at *;generalize G 83 [l0,1,0]=c1 at *;generalize G 83 [l0,2,0]=c2 at *;generalize G 83 [l0,3,0]=c3 at *;generalize G 83 [l0,4,0]=c4 at *;generalize G 83 [l0,5,0]=c5 at *;generalize G 83 [l0,6,0]=c6 at *;generalize G 83 [l0,7,0]=c7 at *;(try simp only[Bool.and_eq_true,Bool.or_eq_true,decide_eq_true_eq]at *);rw[Bool.eq_iff_iff];simp only[Bool.and_eq_true,Bool.or_eq_true,decide_eq_true_eq];omega
 refine aG sN (fun h23=>?_) (fun h23=>?_)
 ·skip
  refine aH aQ1 ?_
  unfold dD at h0;unfold dH at h1;unfold dJ at h2;unfold dL at h3;unfold dR at h4;unfold dV at h5;unfold eE at h6;unfold eL at h7;unfold eR at h8;unfold eZ at h9;unfold eB at h10;unfold eI at h11;unfold eP at h12;unfold fB at h13;unfold fN at h14;unfold gD at h15;unfold gO at h16;unfold iM at h17;unfold jV at h18;unfold kQ at h19;unfold mB at h20;unfold oO at h21;unfold qK at h22;unfold sN at h23;unfold aBU;simp only[bK];refine⟨rfl,?_⟩;simp only[aI];refine⟨?_,trivial⟩;simp only[nn,List.cons_append,List.nil_append,Bool.or_eq_true,aP,ne_eq]at *;generalize G 83 [l0,0,0]=c0 at *;generalize G 83 [l0,1,0]=c1 at *;generalize G 83 [l0,2,0]=c2 at *;generalize G 83 [l0,3,0]=c3 at *;generalize G 83 [l0,4,0]=c4 at *;generalize G 83 [l0,5,0]=c5 at *;generalize G 83 [l0,6,0]=c6 at *;generalize G 83 [l0,7,0]=c7 at *;(try simp only[Bool.and_eq_true,Bool.or_eq_true,decide_eq_true_eq]at *);rw[Bool.eq_iff_iff];simp only[Bool.and_eq_true,Bool.or_eq_true,decide_eq_true_eq];omega
 refine aH aQT ?_
 unfold dD at h0;unfold dH at h1;unfold dJ at h2;unfold dL at h3;unfold dR at h4;unfold dV at h5;unfold eE at h6;unfold eL at h7;unfold eR at h8;unfold eZ at h9;unfold eB at h10;unfold eI at h11;unfold eP at h12;unfold fB at h13;unfold fN at h14;unfold gD at h15;unfold gO at h16;unfold iM at h17;unfold jV at h18;unfold kQ at h19;unfold mB at h20;unfold oO at h21;unfold qK at h22;unfold sN at h23;unfold fM;simp only[bK];refine⟨rfl,?_⟩;simp only[aI];refine⟨?_,trivial⟩;simp only[nn,List.cons_append,List.nil_append,Bool.or_eq_true,aP,ne_eq]at *;generalize G 83 [l0,0,0]=c0 at *;generalize G 83 [l0,1,0]=c1 at *;generalize G 83 [l0,2,0]=c2 at *;generalize G 83 [l0,3,0]=c3 at *;generalize G 83 [l0,4,0]=c4 at *;generalize G 83 [l0,5,0]=c5 at *;generalize G 83 [l0,6,0]=c6 at *;generalize G 83 [l0,7,0]=c7 at *;(try simp only[Bool.and_eq_true,Bool.or_eq_true,decide_eq_true_eq]at *);rw[Bool.eq_iff_iff];simp only[Bool.and_eq_true,Bool.or_eq_true,decide_eq_true_eq];omega
def aDe:Ctx→List SV→aM→Res (SV × aM):=dW GB [(0,8)] 1 (.lit true) aS2
theorem aVF {X:Ctx} {ρ:Nat→Int} (hX:X.Ok ρ) (hG:X.G=G):eV Try.prog X ρ GB 70 aDe:=by
 obtain⟨XG,XI,XV,XF⟩:=X
 simp only at hG
 subst hG
 refine cU hX ?_
 intro xs ls hw hl hp
 obtain⟨x0,y0,e0,b0,h0⟩:=aY hw
 have e1:=jJ h0
 subst e1 e0
 obtain⟨l0,z0,q0,hl0⟩:=bJ hl
 have q1:=List.length_eq_zero_iff.1 hl0
 subst q1 q0
 exact aS5 x0 l0 b0
def aAC:Ctx→List SV→aM→Res (SV × aM):=rW aD3
theorem aTi {X:Ctx} {ρ:Nat→Int} (hX:X.Ok ρ) (hG:X.G=G):eV Try.prog X ρ GB 91 aAC:=nH hX (aWk hX hG)
def aAP:Ctx→List SV→aM→Res (SV × aM):=rW aD6
theorem aUo {X:Ctx} {ρ:Nat→Int} (hX:X.Ok ρ) (hG:X.G=G):eV Try.prog X ρ GB 91 aAP:=nH hX (aVI hX hG)
def aAv:Ctx→List SV→aM→Res (SV × aM):=rW aDe
theorem aTd {X:Ctx} {ρ:Nat→Int} (hX:X.Ok ρ) (hG:X.G=G):eV Try.prog X ρ GB 70 aAv:=nH hX (aVF hX hG)
def aSn:bA:=fQ 91 (aCf aAC aAP) gH
theorem aKZ {X:Ctx} {ρ:Nat→Int} (hX:X.Ok ρ) (hG:X.G=G):fF Try.prog X ρ GB aSn:=dN (aA9 (aTi hX hG) (aUo hX hG)) (dA hX hG)
def aSo:bA:=fQ 70 aAv aSn
theorem aKn {X:Ctx} {ρ:Nat→Int} (hX:X.Ok ρ) (hG:X.G=G):fF Try.prog X ρ GB aSo:=dN (aTd hX hG) (aKZ hX hG)
def aWr:B:=(.lit true)
def aTz:FunS:=⟨[(.slice 0 0 6 6),(.int .i64 (.var 0))],[some ([(.int .i64 (.lit 1)),(.int .i64 (.lit 2)),(.int .i64 (.lit 4)),(.int .i64 (.lit 8)),(.int .i64 (.lit 12)),(.int .i64 (.lit 16))],3)],aWr,(.bool (.or (.cmp .eq (.var 0) (.lit 1)) (.or (.cmp .eq (.var 0) (.lit 2)) (.or (.cmp .eq (.var 0) (.lit 4)) (.or (.cmp .eq (.var 0) (.lit 8)) (.or (.cmp .eq (.var 0) (.lit 12)) (.cmp .eq (.var 0) (.lit 16)))))))),[some ([(.int .i64 (.lit 1)),(.int .i64 (.lit 2)),(.int .i64 (.lit 4)),(.int .i64 (.lit 8)),(.int .i64 (.lit 12)),(.int .i64 (.lit 16))],3)],(.bool (.or (.cmp .eq (.var 0) (.lit 1)) (.or (.cmp .eq (.var 0) (.lit 2)) (.or (.cmp .eq (.var 0) (.lit 4)) (.or (.cmp .eq (.var 0) (.lit 8)) (.or (.cmp .eq (.var 0) (.lit 12)) (.cmp .eq (.var 0) (.lit 16)))))))),[some ([(.int .i64 (.lit 1)),(.int .i64 (.lit 2)),(.int .i64 (.lit 4)),(.int .i64 (.lit 8)),(.int .i64 (.lit 12)),(.int .i64 (.lit 16))],3)]⟩
def aJV (P:Program) (fs:List B):Res SV:=cA G GI [((-9223372036854775808),9223372036854775807)] fs fun X=>gJ P X GB gH dO 4000 72 aTz
end Go.Proofs.Ytdldallkeheciaa
set_option maxRecDepth 100000
namespace Go.Proofs.Ytdldallkeheciaa
open Go Go.RowKit Sx Wi Lk
def zH (P:Program) (fs:List B):Res SV:=aJV P fs
def aLq:List B:=[]
def mO:B:=(.cmp .eq (.var 0) (.lit 1))
def aTg:List B:=aJ mO++aLq
def aLQ:List B:=aJ (B.neg mO)++aLq
def oA:B:=(.cmp .eq (.var 0) (.lit 2))
def aT3:List B:=aJ oA++aLQ
def aIQ:List B:=aJ (B.neg oA)++aLQ
def pI:B:=(.cmp .eq (.var 0) (.lit 4))
def aUL:List B:=aJ pI++aIQ
def aK1:List B:=aJ (B.neg pI)++aIQ
def rD:B:=(.cmp .eq (.var 0) (.lit 8))
def aSY:List B:=aJ rD++aK1
def aLm:List B:=aJ (B.neg rD)++aK1
def vE:B:=(.cmp .eq (.var 0) (.lit 12))
def aVD:List B:=aJ vE++aLm
def aFT:List B:=aJ (B.neg vE)++aLm
def aAc:B:=(.cmp .eq (.var 0) (.lit 16))
def aRU:List B:=aJ aAc++aFT
def aMU:List B:=aJ (B.neg aAc)++aFT
theorem aVo:zH Try.prog aTg = .ok (.tuple [(.agg [(.bool (.cmp .le (.lit 0) (.lit 0))),(.bool (.or (.cmp .eq (.var 0) (.lit 1)) (.or (.cmp .eq (.var 0) (.lit 2)) (.or (.cmp .eq (.var 0) (.lit 4)) (.or (.cmp .eq (.var 0) (.lit 8)) (.or (.cmp .eq (.var 0) (.lit 12)) (.cmp .eq (.var 0) (.lit 16))))))))]),(.bool (.lit true))]):=by kernel_rfl
theorem aUn:zH Try.prog aT3 = .ok (.tuple [(.agg [(.bool (.cmp .le (.lit 0) (.lit 1))),(.bool (.or (.cmp .eq (.var 0) (.lit 1)) (.or (.cmp .eq (.var 0) (.lit 2)) (.or (.cmp .eq (.var 0) (.lit 4)) (.or (.cmp .eq (.var 0) (.lit 8)) (.or (.cmp .eq (.var 0) (.lit 12)) (.cmp .eq (.var 0) (.lit 16))))))))]),(.bool (.lit true))]):=by kernel_rfl
theorem aUi:zH Try.prog aUL = .ok (.tuple [(.agg [(.bool (.cmp .le (.lit 0) (.lit 2))),(.bool (.or (.cmp .eq (.var 0) (.lit 1)) (.or (.cmp .eq (.var 0) (.lit 2)) (.or (.cmp .eq (.var 0) (.lit 4)) (.or (.cmp .eq (.var 0) (.lit 8)) (.or (.cmp .eq (.var 0) (.lit 12)) (.cmp .eq (.var 0) (.lit 16))))))))]),(.bool (.lit true))]):=by kernel_rfl
theorem aTq:zH Try.prog aSY = .ok (.tuple [(.agg [(.bool (.cmp .le (.lit 0) (.lit 3))),(.bool (.or (.cmp .eq (.var 0) (.lit 1)) (.or (.cmp .eq (.var 0) (.lit 2)) (.or (.cmp .eq (.var 0) (.lit 4)) (.or (.cmp .eq (.var 0) (.lit 8)) (.or (.cmp .eq (.var 0) (.lit 12)) (.cmp .eq (.var 0) (.lit 16))))))))]),(.bool (.lit true))]):=by kernel_rfl
theorem aUW:zH Try.prog aVD = .ok (.tuple [(.agg [(.bool (.cmp .le (.lit 0) (.lit 4))),(.bool (.or (.cmp .eq (.var 0) (.lit 1)) (.or (.cmp .eq (.var 0) (.lit 2)) (.or (.cmp .eq (.var 0) (.lit 4)) (.or (.cmp .eq (.var 0) (.lit 8)) (.or (.cmp .eq (.var 0) (.lit 12)) (.cmp .eq (.var 0) (.lit 16))))))))]),(.bool (.lit true))]):=by kernel_rfl
theorem aPC:zH Try.prog aRU = .ok (.tuple [(.agg [(.bool (.cmp .le (.lit 0) (.lit 5))),(.bool (.or (.cmp .eq (.var 0) (.lit 1)) (.or (.cmp .eq (.var 0) (.lit 2)) (.or (.cmp .eq (.var 0) (.lit 4)) (.or (.cmp .eq (.var 0) (.lit 8)) (.or (.cmp .eq (.var 0) (.lit 12)) (.cmp .eq (.var 0) (.lit 16))))))))]),(.bool (.lit true))]):=by kernel_rfl
theorem aPj:zH Try.prog aMU = .ok (.tuple [(.agg [(.bool (.cmp .le (.lit 0) (.lit (-1)))),(.bool (.or (.cmp .eq (.var 0) (.lit 1)) (.or (.cmp .eq (.var 0) (.lit 2)) (.or (.cmp .eq (.var 0) (.lit 4)) (.or (.cmp .eq (.var 0) (.lit 8)) (.or (.cmp .eq (.var 0) (.lit 12)) (.cmp .eq (.var 0) (.lit 16))))))))]),(.bool (.lit true))]):=by kernel_rfl
end Go.Proofs.Ytdldallkeheciaa
namespace Go.Proofs.Ytdldallkeheciaa
open Go Go.RowKit Sx Wi Lk
set_option maxHeartbeats 8000000 in
set_option maxRecDepth 100000 in
theorem aVq (x0:Int) (b0:(-9223372036854775808)≤x0∧x0≤9223372036854775807):fX Try.prog G GB 72 aTz (cQ ([x0]++[])):=by
 refine cY (lp:=dO) (run:=aJV Try.prog) (fun _=>rfl) fits (bP (xs:=[x0]) (ls:=[]) (by exact⟨b0,trivial⟩)) eU (fun X hX hG=>dA hX hG) (fun X hX hG fn c hf hc=>cF) rfl ?_
 refine aG mO (fun h0=>?_) (fun h0=>?_)
 ·skip
  refine aH aVo ?_
  unfold mO at h0;simp only[bK];refine⟨rfl,?_⟩;simp only[aI];refine⟨?_,trivial⟩;simp only[nn,List.cons_append,List.nil_append,Bool.or_eq_true,aP,ne_eq]at *;rw[Bool.eq_iff_iff];simp only[Bool.and_eq_true,Bool.or_eq_true,decide_eq_true_eq];omega
 refine aG oA (fun h1=>?_) (fun h1=>?_)
 ·skip
  refine aH aUn ?_
  unfold mO at h0;unfold oA at h1;simp only[bK];refine⟨rfl,?_⟩;simp only[aI];refine⟨?_,trivial⟩;simp only[nn,List.cons_append,List.nil_append,Bool.or_eq_true,aP,ne_eq]at *;rw[Bool.eq_iff_iff];simp only[Bool.and_eq_true,Bool.or_eq_true,decide_eq_true_eq];omega
 refine aG pI (fun h2=>?_) (fun h2=>?_)
 ·skip
  refine aH aUi ?_
  unfold mO at h0;unfold oA at h1;unfold pI at h2;simp only[bK];refine⟨rfl,?_⟩;simp only[aI];refine⟨?_,trivial⟩;simp only[nn,List.cons_append,List.nil_append,Bool.or_eq_true,aP,ne_eq]at *;rw[Bool.eq_iff_iff];simp only[Bool.and_eq_true,Bool.or_eq_true,decide_eq_true_eq];omega
 refine aG rD (fun h3=>?_) (fun h3=>?_)
 ·skip
  refine aH aTq ?_
  unfold mO at h0;unfold oA at h1;unfold pI at h2;unfold rD at h3;simp only[bK];refine⟨rfl,?_⟩;simp only[aI];refine⟨?_,trivial⟩;simp only[nn,List.cons_append,List.nil_append,Bool.or_eq_true,aP,ne_eq]at *;rw[Bool.eq_iff_iff];simp only[Bool.and_eq_true,Bool.or_eq_true,decide_eq_true_eq];omega
 refine aG vE (fun h4=>?_) (fun h4=>?_)
 ·skip
  refine aH aUW ?_
  unfold mO at h0;unfold oA at h1;unfold pI at h2;unfold rD at h3;unfold vE at h4;simp only[bK];refine⟨rfl,?_⟩;simp only[aI];refine⟨?_,trivial⟩;simp only[nn,List.cons_append,List.nil_append,Bool.or_eq_true,aP,ne_eq]at *;rw[Bool.eq_iff_iff];simp only[Bool.and_eq_true,Bool.or_eq_true,decide_eq_true_eq];omega
 refine aG aAc (fun h5=>?_) (fun h5=>?_)
 ·skip
  refine aH aPC ?_
  unfold mO at h0;unfold oA at h1;unfold pI at h2;unfold rD at h3;unfold vE at h4;unfold aAc at h5;simp only[bK];refine⟨rfl,?_⟩;simp only[aI];refine⟨?_,trivial⟩;simp only[nn,List.cons_append,List.nil_append,Bool.or_eq_true,aP,ne_eq]at *;rw[Bool.eq_iff_iff];simp only[Bool.and_eq_true,Bool.or_eq_true,decide_eq_true_eq];omega
 refine aH aPj ?_
 unfold mO at h0;unfold oA at h1;unfold pI at h2;unfold rD at h3;unfold vE at h4;unfold aAc at h5;simp only[bK];refine⟨rfl,?_⟩;simp only[aI];refine⟨?_,trivial⟩;simp only[nn,List.cons_append,List.nil_append,Bool.or_eq_true,aP,ne_eq]at *;rw[Bool.eq_iff_iff];simp only[Bool.and_eq_true,Bool.or_eq_true,decide_eq_true_eq];omega
def aEc:Ctx→List SV→aM→Res (SV × aM):=dW GB [((-9223372036854775808),9223372036854775807)] 0 (.lit true) aTz
theorem aV1 {X:Ctx} {ρ:Nat→Int} (hX:X.Ok ρ) (hG:X.G=G):eV Try.prog X ρ GB 72 aEc:=by
 obtain⟨XG,XI,XV,XF⟩:=X
 simp only at hG
 subst hG
 refine cU hX ?_
 intro xs ls hw hl hp
 obtain⟨x0,y0,e0,b0,h0⟩:=aY hw
 have e1:=jJ h0
 subst e1 e0
 have q0:=List.length_eq_zero_iff.1 hl
 subst q0
 exact aVq x0 b0
def aAW:Ctx→List SV→aM→Res (SV × aM):=rW aEc
theorem aTW {X:Ctx} {ρ:Nat→Int} (hX:X.Ok ρ) (hG:X.G=G):eV Try.prog X ρ GB 72 aAW:=nH hX (aV1 hX hG)
def aJH:bA:=fQ 72 aAW aSo
theorem aDS {X:Ctx} {ρ:Nat→Int} (hX:X.Ok ρ) (hG:X.G=G):fF Try.prog X ρ GB aJH:=dN (aTW hX hG) (aKn hX hG)
def aWL:B:=(.lit true)
def aU9:FunS:=⟨[(.agg [(.int .u8 (.var 0)),(.own 0 (.var 1) none),(.own 1 (.var 2) none),(.own 2 (.var 3) none),(.int .i64 (.var 4)),(.own 3 (.var 5) none),(.own 4 (.var 6) none),(.own 5 (.var 7) none),.any,.any,.any,.any,.any,.any])],[some ([.vec [.int .i32,.int .i32] (.var 8) (.var 1) true],aF),some ([.vec [.int .i32,.int .i32] (.var 9) (.var 2) true],aF),some ([.vec [.int .i64] (.var 10) (.var 3) true],aF),some ([.vec [.int .i32,.int .i32] (.var 11) (.var 5) true],aF),some ([.vec [.int .i32,.int .i32] (.var 12) (.var 6) true],aF),some ([.vec [.int .u8] (.var 13) (.var 7) true],aF)],aWL,(.bool bU),[some ([.vec [.int .i32,.int .i32] (.var 8) (.var 1) true],aF),some ([.vec [.int .i32,.int .i32] (.var 9) (.var 2) true],aF),some ([.vec [.int .i64] (.var 10) (.var 3) true],aF),some ([.vec [.int .i32,.int .i32] (.var 11) (.var 5) true],aF),some ([.vec [.int .i32,.int .i32] (.var 12) (.var 6) true],aF),some ([.vec [.int .u8] (.var 13) (.var 7) true],aF)],(.bool bU),[some ([.vec [.int .i32,.int .i32] (.var 8) (.var 1) true],aF),some ([.vec [.int .i32,.int .i32] (.var 9) (.var 2) true],aF),some ([.vec [.int .i64] (.var 10) (.var 3) true],aF),some ([.vec [.int .i32,.int .i32] (.var 11) (.var 5) true],aF),some ([.vec [.int .i32,.int .i32] (.var 12) (.var 6) true],aF),some ([.vec [.int .u8] (.var 13) (.var 7) true],aF)]⟩
def aMb (P:Program) (fs:List B):Res SV:=cA G GI [(0,255),(0,8),(0,8),(0,8),((-9223372036854775808),9223372036854775807),(0,8),(0,8),(0,70000)] fs fun X=>gJ P X GB aJH dO 4000 40 aU9
end Go.Proofs.Ytdldallkeheciaa
