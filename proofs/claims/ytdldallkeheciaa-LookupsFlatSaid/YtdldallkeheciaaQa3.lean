/- What is proved: what some functions leave,as it is told. No condition but the numbers' own bounds. -/
import Derived.Test.YtdldallkeheciaaQNn
import Derived.Test.YtdldallkeheciaaQa1
import Derived.Test.YtdldallkeheciaaQa2
import Derived.Test.YtdldallkeheciaaQg4
import Derived.Test.YtdldallkeheciaaProg
set_option linter.unusedSimpArgs false
set_option linter.unusedVariables false
namespace Go.Proofs.Ytdldallkeheciaa
open Go Go.RowKit Sx Wi Lk
set_option maxHeartbeats 8000000 in
set_option maxRecDepth 100000 in
theorem aVY (x0 l0:Int) (b0:1≤x0∧x0≤4):gD Try.prog G GB 91 aVW (cR ([x0]++[l0])):=by
 refine cX (lp:=dQ) (run:=aJe Try.prog) (fun _=>rfl) fits (bP (xs:=[x0]) (ls:=[l0]) (by exact⟨b0,trivial⟩)) eS (fun X hX hG=>dA hX hG) (fun X hX hG fn c hf hc=>cG) rfl ?_
 refine aG hC (fun h0=>?_) (fun h0=>?_)
 ·skip
  refine aH aU0 ?_
  unfold hC at h0;unfold aCn;simp only[bK];refine⟨rfl,?_⟩;simp only[aI];refine⟨?_,trivial⟩;simp only[nn,List.cons_append,List.nil_append,Bool.or_eq_true,aP,ne_eq]at *;generalize G 82 [l0,0,0]=c0 at *;generalize G 82 [l0,0,1]=c1 at *;generalize G 82 [l0,1,0]=c2 at *;generalize G 82 [l0,1,1]=c3 at *;generalize G 82 [l0,2,0]=c4 at *;generalize G 82 [l0,2,1]=c5 at *;generalize G 82 [l0,3,0]=c6 at *;generalize G 82 [l0,3,1]=c7 at *;(try simp only[Bool.and_eq_true,Bool.or_eq_true,decide_eq_true_eq]at *);rw[Bool.eq_iff_iff];simp only[Bool.and_eq_true,Bool.or_eq_true,decide_eq_true_eq];omega
 refine aG jC (fun h1=>?_) (fun h1=>?_)
 ·skip
  refine aH aTw ?_
  unfold hC at h0;unfold jC at h1;unfold aCn;simp only[bK];refine⟨rfl,?_⟩;simp only[aI];refine⟨?_,trivial⟩;simp only[nn,List.cons_append,List.nil_append,Bool.or_eq_true,aP,ne_eq]at *;generalize G 82 [l0,0,0]=c0 at *;generalize G 82 [l0,0,1]=c1 at *;generalize G 82 [l0,1,0]=c2 at *;generalize G 82 [l0,1,1]=c3 at *;generalize G 82 [l0,2,0]=c4 at *;generalize G 82 [l0,2,1]=c5 at *;generalize G 82 [l0,3,0]=c6 at *;generalize G 82 [l0,3,1]=c7 at *;(try simp only[Bool.and_eq_true,Bool.or_eq_true,decide_eq_true_eq]at *);rw[Bool.eq_iff_iff];simp only[Bool.and_eq_true,Bool.or_eq_true,decide_eq_true_eq];omega
 refine aG jR (fun h2=>?_) (fun h2=>?_)
 rotate_left
 ·skip
  refine aH aSw ?_
  unfold hC at h0;unfold jC at h1;unfold jR at h2;unfold pM;simp only[bK];refine⟨rfl,?_⟩;simp only[aI];refine⟨?_,trivial⟩;simp only[nn,List.cons_append,List.nil_append,Bool.or_eq_true,aP,ne_eq]at *;generalize G 82 [l0,0,0]=c0 at *;generalize G 82 [l0,0,1]=c1 at *;generalize G 82 [l0,1,0]=c2 at *;generalize G 82 [l0,1,1]=c3 at *;generalize G 82 [l0,2,0]=c4 at *;generalize G 82 [l0,2,1]=c5 at *;generalize G 82 [l0,3,0]=c6 at *;generalize G 82 [l0,3,1]=c7 at *;(try simp only[Bool.and_eq_true,Bool.or_eq_true,decide_eq_true_eq]at *);rw[Bool.eq_iff_iff];simp only[Bool.and_eq_true,Bool.or_eq_true,decide_eq_true_eq];omega
 refine aG kI (fun h3=>?_) (fun h3=>?_)
 ·skip
  refine aH aVz ?_
  unfold hC at h0;unfold jC at h1;unfold jR at h2;unfold kI at h3;unfold aCq;simp only[bK];refine⟨rfl,?_⟩;simp only[aI];refine⟨?_,trivial⟩;simp only[nn,List.cons_append,List.nil_append,Bool.or_eq_true,aP,ne_eq]at *;generalize G 82 [l0,0,0]=c0 at *;generalize G 82 [l0,0,1]=c1 at *;generalize G 82 [l0,1,0]=c2 at *;generalize G 82 [l0,1,1]=c3 at *;generalize G 82 [l0,2,0]=c4 at *;generalize G 82 [l0,2,1]=c5 at *;generalize G 82 [l0,3,0]=c6 at *;generalize G 82 [l0,3,1]=c7 at *;(try simp only[Bool.and_eq_true,Bool.or_eq_true,decide_eq_true_eq]at *);rw[Bool.eq_iff_iff];simp only[Bool.and_eq_true,Bool.or_eq_true,decide_eq_true_eq];omega
 refine aG lG (fun h4=>?_) (fun h4=>?_)
 ·skip
  refine aH aUl ?_
  unfold hC at h0;unfold jC at h1;unfold jR at h2;unfold kI at h3;unfold lG at h4;unfold aCq;simp only[bK];refine⟨rfl,?_⟩;simp only[aI];refine⟨?_,trivial⟩;simp only[nn,List.cons_append,List.nil_append,Bool.or_eq_true,aP,ne_eq]at *;generalize G 82 [l0,0,0]=c0 at *;generalize G 82 [l0,0,1]=c1 at *;generalize G 82 [l0,1,0]=c2 at *;generalize G 82 [l0,1,1]=c3 at *;generalize G 82 [l0,2,0]=c4 at *;generalize G 82 [l0,2,1]=c5 at *;generalize G 82 [l0,3,0]=c6 at *;generalize G 82 [l0,3,1]=c7 at *;(try simp only[Bool.and_eq_true,Bool.or_eq_true,decide_eq_true_eq]at *);rw[Bool.eq_iff_iff];simp only[Bool.and_eq_true,Bool.or_eq_true,decide_eq_true_eq];omega
 refine aG mI (fun h5=>?_) (fun h5=>?_)
 rotate_left
 ·skip
  refine aH aOd ?_
  unfold hC at h0;unfold jC at h1;unfold jR at h2;unfold kI at h3;unfold lG at h4;unfold mI at h5;unfold pM;simp only[bK];refine⟨rfl,?_⟩;simp only[aI];refine⟨?_,trivial⟩;simp only[nn,List.cons_append,List.nil_append,Bool.or_eq_true,aP,ne_eq]at *;generalize G 82 [l0,0,0]=c0 at *;generalize G 82 [l0,0,1]=c1 at *;generalize G 82 [l0,1,0]=c2 at *;generalize G 82 [l0,1,1]=c3 at *;generalize G 82 [l0,2,0]=c4 at *;generalize G 82 [l0,2,1]=c5 at *;generalize G 82 [l0,3,0]=c6 at *;generalize G 82 [l0,3,1]=c7 at *;(try simp only[Bool.and_eq_true,Bool.or_eq_true,decide_eq_true_eq]at *);rw[Bool.eq_iff_iff];simp only[Bool.and_eq_true,Bool.or_eq_true,decide_eq_true_eq];omega
 refine aG oE (fun h6=>?_) (fun h6=>?_)
 ·skip
  refine aH aPb ?_
  unfold hC at h0;unfold jC at h1;unfold jR at h2;unfold kI at h3;unfold lG at h4;unfold mI at h5;unfold oE at h6;unfold aCz;simp only[bK];refine⟨rfl,?_⟩;simp only[aI];refine⟨?_,trivial⟩;simp only[nn,List.cons_append,List.nil_append,Bool.or_eq_true,aP,ne_eq]at *;generalize G 82 [l0,0,0]=c0 at *;generalize G 82 [l0,0,1]=c1 at *;generalize G 82 [l0,1,0]=c2 at *;generalize G 82 [l0,1,1]=c3 at *;generalize G 82 [l0,2,0]=c4 at *;generalize G 82 [l0,2,1]=c5 at *;generalize G 82 [l0,3,0]=c6 at *;generalize G 82 [l0,3,1]=c7 at *;(try simp only[Bool.and_eq_true,Bool.or_eq_true,decide_eq_true_eq]at *);rw[Bool.eq_iff_iff];simp only[Bool.and_eq_true,Bool.or_eq_true,decide_eq_true_eq];omega
 refine aG pS (fun h7=>?_) (fun h7=>?_)
 ·skip
  refine aH aQZ ?_
  unfold hC at h0;unfold jC at h1;unfold jR at h2;unfold kI at h3;unfold lG at h4;unfold mI at h5;unfold oE at h6;unfold pS at h7;unfold aCz;simp only[bK];refine⟨rfl,?_⟩;simp only[aI];refine⟨?_,trivial⟩;simp only[nn,List.cons_append,List.nil_append,Bool.or_eq_true,aP,ne_eq]at *;generalize G 82 [l0,0,0]=c0 at *;generalize G 82 [l0,0,1]=c1 at *;generalize G 82 [l0,1,0]=c2 at *;generalize G 82 [l0,1,1]=c3 at *;generalize G 82 [l0,2,0]=c4 at *;generalize G 82 [l0,2,1]=c5 at *;generalize G 82 [l0,3,0]=c6 at *;generalize G 82 [l0,3,1]=c7 at *;(try simp only[Bool.and_eq_true,Bool.or_eq_true,decide_eq_true_eq]at *);rw[Bool.eq_iff_iff];simp only[Bool.and_eq_true,Bool.or_eq_true,decide_eq_true_eq];omega
 refine aG rW (fun h8=>?_) (fun h8=>?_)
 rotate_left
 ·skip
  refine aH aPS ?_
  unfold hC at h0;unfold jC at h1;unfold jR at h2;unfold kI at h3;unfold lG at h4;unfold mI at h5;unfold oE at h6;unfold pS at h7;unfold rW at h8;unfold pM;simp only[bK];refine⟨rfl,?_⟩;simp only[aI];refine⟨?_,trivial⟩;simp only[nn,List.cons_append,List.nil_append,Bool.or_eq_true,aP,ne_eq]at *;generalize G 82 [l0,0,0]=c0 at *;generalize G 82 [l0,0,1]=c1 at *;generalize G 82 [l0,1,0]=c2 at *;generalize G 82 [l0,1,1]=c3 at *;generalize G 82 [l0,2,0]=c4 at *;generalize G 82 [l0,2,1]=c5 at *;generalize G 82 [l0,3,0]=c6 at *;generalize G 82 [l0,3,1]=c7 at *;(try simp only[Bool.and_eq_true,Bool.or_eq_true,decide_eq_true_eq]at *);rw[Bool.eq_iff_iff];simp only[Bool.and_eq_true,Bool.or_eq_true,decide_eq_true_eq];omega
 refine aG uK (fun h9=>?_) (fun h9=>?_)
 ·skip
  refine aH aOi ?_
  unfold hC at h0;unfold jC at h1;unfold jR at h2;unfold kI at h3;unfold lG at h4;unfold mI at h5;unfold oE at h6;unfold pS at h7;unfold rW at h8;unfold uK at h9;unfold aBx;simp only[bK];refine⟨rfl,?_⟩;simp only[aI];refine⟨?_,trivial⟩;simp only[nn,List.cons_append,List.nil_append,Bool.or_eq_true,aP,ne_eq]at *;generalize G 82 [l0,0,0]=c0 at *;generalize G 82 [l0,0,1]=c1 at *;generalize G 82 [l0,1,0]=c2 at *;generalize G 82 [l0,1,1]=c3 at *;generalize G 82 [l0,2,0]=c4 at *;generalize G 82 [l0,2,1]=c5 at *;generalize G 82 [l0,3,0]=c6 at *;generalize G 82 [l0,3,1]=c7 at *;(try simp only[Bool.and_eq_true,Bool.or_eq_true,decide_eq_true_eq]at *);rw[Bool.eq_iff_iff];simp only[Bool.and_eq_true,Bool.or_eq_true,decide_eq_true_eq];omega
 refine aG tL (fun h10=>?_) (fun h10=>?_)
 ·skip
  refine aH aSX ?_
  unfold hC at h0;unfold jC at h1;unfold jR at h2;unfold kI at h3;unfold lG at h4;unfold mI at h5;unfold oE at h6;unfold pS at h7;unfold rW at h8;unfold uK at h9;unfold tL at h10;unfold aBx;simp only[bK];refine⟨rfl,?_⟩;simp only[aI];refine⟨?_,trivial⟩;simp only[nn,List.cons_append,List.nil_append,Bool.or_eq_true,aP,ne_eq]at *;generalize G 82 [l0,0,0]=c0 at *;generalize G 82 [l0,0,1]=c1 at *;generalize G 82 [l0,1,0]=c2 at *;generalize G 82 [l0,1,1]=c3 at *;generalize G 82 [l0,2,0]=c4 at *;generalize G 82 [l0,2,1]=c5 at *;generalize G 82 [l0,3,0]=c6 at *;generalize G 82 [l0,3,1]=c7 at *;(try simp only[Bool.and_eq_true,Bool.or_eq_true,decide_eq_true_eq]at *);rw[Bool.eq_iff_iff];simp only[Bool.and_eq_true,Bool.or_eq_true,decide_eq_true_eq];omega
 refine aH aQb ?_
 unfold hC at h0;unfold jC at h1;unfold jR at h2;unfold kI at h3;unfold lG at h4;unfold mI at h5;unfold oE at h6;unfold pS at h7;unfold rW at h8;unfold uK at h9;unfold tL at h10;unfold pM;simp only[bK];refine⟨rfl,?_⟩;simp only[aI];refine⟨?_,trivial⟩;simp only[nn,List.cons_append,List.nil_append,Bool.or_eq_true,aP,ne_eq]at *;generalize G 82 [l0,0,0]=c0 at *;generalize G 82 [l0,0,1]=c1 at *;generalize G 82 [l0,1,0]=c2 at *;generalize G 82 [l0,1,1]=c3 at *;generalize G 82 [l0,2,0]=c4 at *;generalize G 82 [l0,2,1]=c5 at *;generalize G 82 [l0,3,0]=c6 at *;generalize G 82 [l0,3,1]=c7 at *;(try simp only[Bool.and_eq_true,Bool.or_eq_true,decide_eq_true_eq]at *);rw[Bool.eq_iff_iff];simp only[Bool.and_eq_true,Bool.or_eq_true,decide_eq_true_eq];omega
def aDx:Ctx→List SV→aM→Res (SV × aM):=dZ GB [(1,4)] 1 (.lit true) aVW
theorem aWN {X:Ctx} {ρ:Nat→Int} (hX:X.Ok ρ) (hG:X.G=G):eU Try.prog X ρ GB 91 aDx:=by
 obtain⟨XG,XI,XV,XF⟩:=X
 simp only at hG
 subst hG
 refine cU hX ?_
 intro xs ls hw hl hp
 obtain⟨x0,y0,e0,b0,h0⟩:=aY hw
 have e1:=jS h0
 subst e1 e0
 obtain⟨l0,z0,q0,hl0⟩:=bJ hl
 have q1:=List.length_eq_zero_iff.1 hl0
 subst q1 q0
 exact aVY x0 l0 b0
set_option maxHeartbeats 8000000 in
set_option maxRecDepth 100000 in
theorem aUq (x0 l0:Int) (b0:1≤x0∧x0≤4):gD Try.prog G GB 91 aTJ (cR ([x0]++[l0])):=by
 refine cX (lp:=dQ) (run:=aM9 Try.prog) (fun _=>rfl) fits (bP (xs:=[x0]) (ls:=[l0]) (by exact⟨b0,trivial⟩)) eS (fun X hX hG=>dA hX hG) (fun X hX hG fn c hf hc=>cG) rfl ?_
 refine aG lI (fun h0=>?_) (fun h0=>?_)
 ·skip
  refine aH aVs ?_
  unfold lI at h0;unfold aJd;simp only[bK];refine⟨rfl,?_⟩;simp only[aI];refine⟨?_,trivial⟩;simp only[nn,List.cons_append,List.nil_append,Bool.or_eq_true,aP,ne_eq]at *;generalize G 82 [l0,0,0]=c0 at *;generalize G 82 [l0,0,1]=c1 at *;generalize G 82 [l0,1,0]=c2 at *;generalize G 82 [l0,1,1]=c3 at *;generalize G 82 [l0,2,0]=c4 at *;generalize G 82 [l0,2,1]=c5 at *;generalize G 82 [l0,3,0]=c6 at *;generalize G 82 [l0,3,1]=c7 at *;(try simp only[Bool.and_eq_true,Bool.or_eq_true,decide_eq_true_eq]at *);rw[Bool.eq_iff_iff];simp only[Bool.and_eq_true,Bool.or_eq_true,decide_eq_true_eq];omega
 refine aG mP (fun h1=>?_) (fun h1=>?_)
 rotate_left
 ·skip
  refine aH aQn ?_
  unfold lI at h0;unfold mP at h1;unfold pV;simp only[bK];refine⟨rfl,?_⟩;simp only[aI];refine⟨?_,trivial⟩;simp only[nn,List.cons_append,List.nil_append,Bool.or_eq_true,aP,ne_eq]at *;generalize G 82 [l0,0,0]=c0 at *;generalize G 82 [l0,0,1]=c1 at *;generalize G 82 [l0,1,0]=c2 at *;generalize G 82 [l0,1,1]=c3 at *;generalize G 82 [l0,2,0]=c4 at *;generalize G 82 [l0,2,1]=c5 at *;generalize G 82 [l0,3,0]=c6 at *;generalize G 82 [l0,3,1]=c7 at *;(try simp only[Bool.and_eq_true,Bool.or_eq_true,decide_eq_true_eq]at *);rw[Bool.eq_iff_iff];simp only[Bool.and_eq_true,Bool.or_eq_true,decide_eq_true_eq];omega
 refine aG oK (fun h2=>?_) (fun h2=>?_)
 ·skip
  refine aH aVX ?_
  unfold lI at h0;unfold mP at h1;unfold oK at h2;unfold aNd;simp only[bK];refine⟨rfl,?_⟩;simp only[aI];refine⟨?_,trivial⟩;simp only[nn,List.cons_append,List.nil_append,Bool.or_eq_true,aP,ne_eq]at *;generalize G 82 [l0,0,0]=c0 at *;generalize G 82 [l0,0,1]=c1 at *;generalize G 82 [l0,1,0]=c2 at *;generalize G 82 [l0,1,1]=c3 at *;generalize G 82 [l0,2,0]=c4 at *;generalize G 82 [l0,2,1]=c5 at *;generalize G 82 [l0,3,0]=c6 at *;generalize G 82 [l0,3,1]=c7 at *;(try simp only[Bool.and_eq_true,Bool.or_eq_true,decide_eq_true_eq]at *);rw[Bool.eq_iff_iff];simp only[Bool.and_eq_true,Bool.or_eq_true,decide_eq_true_eq];omega
 refine aG qE (fun h3=>?_) (fun h3=>?_)
 rotate_left
 ·skip
  refine aH aQw ?_
  unfold lI at h0;unfold mP at h1;unfold oK at h2;unfold qE at h3;unfold pV;simp only[bK];refine⟨rfl,?_⟩;simp only[aI];refine⟨?_,trivial⟩;simp only[nn,List.cons_append,List.nil_append,Bool.or_eq_true,aP,ne_eq]at *;generalize G 82 [l0,0,0]=c0 at *;generalize G 82 [l0,0,1]=c1 at *;generalize G 82 [l0,1,0]=c2 at *;generalize G 82 [l0,1,1]=c3 at *;generalize G 82 [l0,2,0]=c4 at *;generalize G 82 [l0,2,1]=c5 at *;generalize G 82 [l0,3,0]=c6 at *;generalize G 82 [l0,3,1]=c7 at *;(try simp only[Bool.and_eq_true,Bool.or_eq_true,decide_eq_true_eq]at *);rw[Bool.eq_iff_iff];simp only[Bool.and_eq_true,Bool.or_eq_true,decide_eq_true_eq];omega
 refine aG sL (fun h4=>?_) (fun h4=>?_)
 ·skip
  refine aH aV5 ?_
  unfold lI at h0;unfold mP at h1;unfold oK at h2;unfold qE at h3;unfold sL at h4;unfold aKc;simp only[bK];refine⟨rfl,?_⟩;simp only[aI];refine⟨?_,trivial⟩;simp only[nn,List.cons_append,List.nil_append,Bool.or_eq_true,aP,ne_eq]at *;generalize G 82 [l0,0,0]=c0 at *;generalize G 82 [l0,0,1]=c1 at *;generalize G 82 [l0,1,0]=c2 at *;generalize G 82 [l0,1,1]=c3 at *;generalize G 82 [l0,2,0]=c4 at *;generalize G 82 [l0,2,1]=c5 at *;generalize G 82 [l0,3,0]=c6 at *;generalize G 82 [l0,3,1]=c7 at *;(try simp only[Bool.and_eq_true,Bool.or_eq_true,decide_eq_true_eq]at *);rw[Bool.eq_iff_iff];simp only[Bool.and_eq_true,Bool.or_eq_true,decide_eq_true_eq];omega
 refine aG vM (fun h5=>?_) (fun h5=>?_)
 rotate_left
 ·skip
  refine aH aRR ?_
  unfold lI at h0;unfold mP at h1;unfold oK at h2;unfold qE at h3;unfold sL at h4;unfold vM at h5;unfold pV;simp only[bK];refine⟨rfl,?_⟩;simp only[aI];refine⟨?_,trivial⟩;simp only[nn,List.cons_append,List.nil_append,Bool.or_eq_true,aP,ne_eq]at *;generalize G 82 [l0,0,0]=c0 at *;generalize G 82 [l0,0,1]=c1 at *;generalize G 82 [l0,1,0]=c2 at *;generalize G 82 [l0,1,1]=c3 at *;generalize G 82 [l0,2,0]=c4 at *;generalize G 82 [l0,2,1]=c5 at *;generalize G 82 [l0,3,0]=c6 at *;generalize G 82 [l0,3,1]=c7 at *;(try simp only[Bool.and_eq_true,Bool.or_eq_true,decide_eq_true_eq]at *);rw[Bool.eq_iff_iff];simp only[Bool.and_eq_true,Bool.or_eq_true,decide_eq_true_eq];omega
 refine aG zZ (fun h6=>?_) (fun h6=>?_)
 ·skip
  refine aH aPY ?_
  unfold lI at h0;unfold mP at h1;unfold oK at h2;unfold qE at h3;unfold sL at h4;unfold vM at h5;unfold zZ at h6;unfold aKh;simp only[bK];refine⟨rfl,?_⟩;simp only[aI];refine⟨?_,trivial⟩;simp only[nn,List.cons_append,List.nil_append,Bool.or_eq_true,aP,ne_eq]at *;generalize G 82 [l0,0,0]=c0 at *;generalize G 82 [l0,0,1]=c1 at *;generalize G 82 [l0,1,0]=c2 at *;generalize G 82 [l0,1,1]=c3 at *;generalize G 82 [l0,2,0]=c4 at *;generalize G 82 [l0,2,1]=c5 at *;generalize G 82 [l0,3,0]=c6 at *;generalize G 82 [l0,3,1]=c7 at *;(try simp only[Bool.and_eq_true,Bool.or_eq_true,decide_eq_true_eq]at *);rw[Bool.eq_iff_iff];simp only[Bool.and_eq_true,Bool.or_eq_true,decide_eq_true_eq];omega
 refine aH aSG ?_
 unfold lI at h0;unfold mP at h1;unfold oK at h2;unfold qE at h3;unfold sL at h4;unfold vM at h5;unfold zZ at h6;unfold pV;simp only[bK];refine⟨rfl,?_⟩;simp only[aI];refine⟨?_,trivial⟩;simp only[nn,List.cons_append,List.nil_append,Bool.or_eq_true,aP,ne_eq]at *;generalize G 82 [l0,0,0]=c0 at *;generalize G 82 [l0,0,1]=c1 at *;generalize G 82 [l0,1,0]=c2 at *;generalize G 82 [l0,1,1]=c3 at *;generalize G 82 [l0,2,0]=c4 at *;generalize G 82 [l0,2,1]=c5 at *;generalize G 82 [l0,3,0]=c6 at *;generalize G 82 [l0,3,1]=c7 at *;(try simp only[Bool.and_eq_true,Bool.or_eq_true,decide_eq_true_eq]at *);rw[Bool.eq_iff_iff];simp only[Bool.and_eq_true,Bool.or_eq_true,decide_eq_true_eq];omega
def aDo:Ctx→List SV→aM→Res (SV × aM):=dZ GB [(1,4)] 1 (.lit true) aTJ
theorem aWO {X:Ctx} {ρ:Nat→Int} (hX:X.Ok ρ) (hG:X.G=G):eU Try.prog X ρ GB 91 aDo:=by
 obtain⟨XG,XI,XV,XF⟩:=X
 simp only at hG
 subst hG
 refine cU hX ?_
 intro xs ls hw hl hp
 obtain⟨x0,y0,e0,b0,h0⟩:=aY hw
 have e1:=jS h0
 subst e1 e0
 obtain⟨l0,z0,q0,hl0⟩:=bJ hl
 have q1:=List.length_eq_zero_iff.1 hl0
 subst q1 q0
 exact aUq x0 l0 b0
set_option maxHeartbeats 8000000 in
set_option maxRecDepth 100000 in
theorem aTM (x0 l0:Int) (b0:0≤x0∧x0≤8):gD Try.prog G GB 70 aTX (cR ([x0]++[l0])):=by
 refine cX (lp:=dQ) (run:=aL8 Try.prog) (fun _=>rfl) fits (bP (xs:=[x0]) (ls:=[l0]) (by exact⟨b0,trivial⟩)) eS (fun X hX hG=>dA hX hG) (fun X hX hG fn c hf hc=>cG) rfl ?_
 refine aG dD (fun h0=>?_) (fun h0=>?_)
 rotate_left
 ·skip
  refine aH aOV ?_
  unfold dD at h0;unfold fM;simp only[bK];refine⟨rfl,?_⟩;simp only[aI];refine⟨?_,trivial⟩;simp only[nn,List.cons_append,List.nil_append,Bool.or_eq_true,aP,ne_eq]at *;generalize G 83 [l0,0,0]=c0 at *;generalize G 83 [l0,1,0]=c1 at *;generalize G 83 [l0,2,0]=c2 at *;generalize G 83 [l0,3,0]=c3 at *;generalize G 83 [l0,4,0]=c4 at *;generalize G 83 [l0,5,0]=c5 at *;generalize G 83 [l0,6,0]=c6 at *;generalize G 83 [l0,7,0]=c7 at *;(try simp only[Bool.and_eq_true,Bool.or_eq_true,decide_eq_true_eq]at *);rw[Bool.eq_iff_iff];simp only[Bool.and_eq_true,Bool.or_eq_true,decide_eq_true_eq];omega
 refine aG dH (fun h1=>?_) (fun h1=>?_)
 ·skip
  refine aH aUw ?_
  unfold dD at h0;unfold dH at h1;unfold aBX;simp only[bK];refine⟨rfl,?_⟩;simp only[aI];refine⟨?_,trivial⟩;simp only[nn,List.cons_append,List.nil_append,Bool.or_eq_true,aP,ne_eq]at *;generalize G 83 [l0,0,0]=c0 at *;generalize G 83 [l0,1,0]=c1 at *;generalize G 83 [l0,2,0]=c2 at *;generalize G 83 [l0,3,0]=c3 at *;generalize G 83 [l0,4,0]=c4 at *;generalize G 83 [l0,5,0]=c5 at *;generalize G 83 [l0,6,0]=c6 at *;generalize G 83 [l0,7,0]=c7 at *;(try simp only[Bool.and_eq_true,Bool.or_eq_true,decide_eq_true_eq]at *);rw[Bool.eq_iff_iff];simp only[Bool.and_eq_true,Bool.or_eq_true,decide_eq_true_eq];omega
 refine aG dJ (fun h2=>?_) (fun h2=>?_)
 ·skip
  refine aH aVn ?_
  unfold dD at h0;unfold dH at h1;unfold dJ at h2;unfold aBX;simp only[bK];refine⟨rfl,?_⟩;simp only[aI];refine⟨?_,trivial⟩;simp only[nn,List.cons_append,List.nil_append,Bool.or_eq_true,aP,ne_eq]at *;generalize G 83 [l0,0,0]=c0 at *;generalize G 83 [l0,1,0]=c1 at *;generalize G 83 [l0,2,0]=c2 at *;generalize G 83 [l0,3,0]=c3 at *;generalize G 83 [l0,4,0]=c4 at *;generalize G 83 [l0,5,0]=c5 at *;generalize G 83 [l0,6,0]=c6 at *;generalize G 83 [l0,7,0]=c7 at *;(try simp only[Bool.and_eq_true,Bool.or_eq_true,decide_eq_true_eq]at *);rw[Bool.eq_iff_iff];simp only[Bool.and_eq_true,Bool.or_eq_true,decide_eq_true_eq];omega
 refine aG dN (fun h3=>?_) (fun h3=>?_)
 rotate_left
 ·skip
  refine aH aQq ?_
  unfold dD at h0;unfold dH at h1;unfold dJ at h2;unfold dN at h3;unfold fM;simp only[bK];refine⟨rfl,?_⟩;simp only[aI];refine⟨?_,trivial⟩;simp only[nn,List.cons_append,List.nil_append,Bool.or_eq_true,aP,ne_eq]at *;generalize G 83 [l0,0,0]=c0 at *;generalize G 83 [l0,1,0]=c1 at *;generalize G 83 [l0,2,0]=c2 at *;generalize G 83 [l0,3,0]=c3 at *;generalize G 83 [l0,4,0]=c4 at *;generalize G 83 [l0,5,0]=c5 at *;generalize G 83 [l0,6,0]=c6 at *;generalize G 83 [l0,7,0]=c7 at *;(try simp only[Bool.and_eq_true,Bool.or_eq_true,decide_eq_true_eq]at *);rw[Bool.eq_iff_iff];simp only[Bool.and_eq_true,Bool.or_eq_true,decide_eq_true_eq];omega
 refine aG dT (fun h4=>?_) (fun h4=>?_)
 ·skip
  refine aH aWc ?_
  unfold dD at h0;unfold dH at h1;unfold dJ at h2;unfold dN at h3;unfold dT at h4;unfold aBM;simp only[bK];refine⟨rfl,?_⟩;simp only[aI];refine⟨?_,trivial⟩;simp only[nn,List.cons_append,List.nil_append,Bool.or_eq_true,aP,ne_eq]at *;generalize G 83 [l0,0,0]=c0 at *;generalize G 83 [l0,1,0]=c1 at *;generalize G 83 [l0,2,0]=c2 at *;generalize G 83 [l0,3,0]=c3 at *;generalize G 83 [l0,4,0]=c4 at *;generalize G 83 [l0,5,0]=c5 at *;generalize G 83 [l0,6,0]=c6 at *;generalize G 83 [l0,7,0]=c7 at *;(try simp only[Bool.and_eq_true,Bool.or_eq_true,decide_eq_true_eq]at *);rw[Bool.eq_iff_iff];simp only[Bool.and_eq_true,Bool.or_eq_true,decide_eq_true_eq];omega
 refine aG eA (fun h5=>?_) (fun h5=>?_)
 ·skip
  refine aH aVU ?_
  unfold dD at h0;unfold dH at h1;unfold dJ at h2;unfold dN at h3;unfold dT at h4;unfold eA at h5;unfold aBM;simp only[bK];refine⟨rfl,?_⟩;simp only[aI];refine⟨?_,trivial⟩;simp only[nn,List.cons_append,List.nil_append,Bool.or_eq_true,aP,ne_eq]at *;generalize G 83 [l0,0,0]=c0 at *;generalize G 83 [l0,1,0]=c1 at *;generalize G 83 [l0,2,0]=c2 at *;generalize G 83 [l0,3,0]=c3 at *;generalize G 83 [l0,4,0]=c4 at *;generalize G 83 [l0,5,0]=c5 at *;generalize G 83 [l0,6,0]=c6 at *;generalize G 83 [l0,7,0]=c7 at *;(try simp only[Bool.and_eq_true,Bool.or_eq_true,decide_eq_true_eq]at *);rw[Bool.eq_iff_iff];simp only[Bool.and_eq_true,Bool.or_eq_true,decide_eq_true_eq];omega
 refine aG eE (fun h6=>?_) (fun h6=>?_)
 rotate_left
 ·skip
  refine aH aOa ?_
  unfold dD at h0;unfold dH at h1;unfold dJ at h2;unfold dN at h3;unfold dT at h4;unfold eA at h5;unfold eE at h6;unfold fM;simp only[bK];refine⟨rfl,?_⟩;simp only[aI];refine⟨?_,trivial⟩;simp only[nn,List.cons_append,List.nil_append,Bool.or_eq_true,aP,ne_eq]at *;generalize G 83 [l0,0,0]=c0 at *;generalize G 83 [l0,1,0]=c1 at *;generalize G 83 [l0,2,0]=c2 at *;generalize G 83 [l0,3,0]=c3 at *;generalize G 83 [l0,4,0]=c4 at *;generalize G 83 [l0,5,0]=c5 at *;generalize G 83 [l0,6,0]=c6 at *;generalize G 83 [l0,7,0]=c7 at *;(try simp only[Bool.and_eq_true,Bool.or_eq_true,decide_eq_true_eq]at *);rw[Bool.eq_iff_iff];simp only[Bool.and_eq_true,Bool.or_eq_true,decide_eq_true_eq];omega
 refine aG eM (fun h7=>?_) (fun h7=>?_)
 ·skip
  refine aH aP2 ?_
  unfold dD at h0;unfold dH at h1;unfold dJ at h2;unfold dN at h3;unfold dT at h4;unfold eA at h5;unfold eE at h6;unfold eM at h7;unfold aCg;simp only[bK];refine⟨rfl,?_⟩;simp only[aI];refine⟨?_,trivial⟩;simp only[nn,List.cons_append,List.nil_append,Bool.or_eq_true,aP,ne_eq]at *;generalize G 83 [l0,0,0]=c0 at *;generalize G 83 [l0,1,0]=c1 at *;generalize G 83 [l0,2,0]=c2 at *;generalize G 83 [l0,3,0]=c3 at *;generalize G 83 [l0,4,0]=c4 at *;generalize G 83 [l0,5,0]=c5 at *;generalize G 83 [l0,6,0]=c6 at *;generalize G 83 [l0,7,0]=c7 at *;(try simp only[Bool.and_eq_true,Bool.or_eq_true,decide_eq_true_eq]at *);rw[Bool.eq_iff_iff];simp only[Bool.and_eq_true,Bool.or_eq_true,decide_eq_true_eq];omega
 refine aG eT (fun h8=>?_) (fun h8=>?_)
 ·skip
  refine aH aOl ?_
  unfold dD at h0;unfold dH at h1;unfold dJ at h2;unfold dN at h3;unfold dT at h4;unfold eA at h5;unfold eE at h6;unfold eM at h7;unfold eT at h8;unfold aCg;simp only[bK];refine⟨rfl,?_⟩;simp only[aI];refine⟨?_,trivial⟩;simp only[nn,List.cons_append,List.nil_append,Bool.or_eq_true,aP,ne_eq]at *;generalize G 83 [l0,0,0]=c0 at *;generalize G 83 [l0,1,0]=c1 at *;generalize G 83 [l0,2,0]=c2 at *;generalize G 83 [l0,3,0]=c3 at *;generalize G 83 [l0,4,0]=c4 at *;generalize G 83 [l0,5,0]=c5 at *;generalize G 83 [l0,6,0]=c6 at *;generalize G 83 [l0,7,0]=c7 at *;(try simp only[Bool.and_eq_true,Bool.or_eq_true,decide_eq_true_eq]at *);rw[Bool.eq_iff_iff];simp only[Bool.and_eq_true,Bool.or_eq_true,decide_eq_true_eq];omega
 refine aG eY (fun h9=>?_) (fun h9=>?_)
 rotate_left
 ·skip
  refine aH aRk ?_
  unfold dD at h0;unfold dH at h1;unfold dJ at h2;unfold dN at h3;unfold dT at h4;unfold eA at h5;unfold eE at h6;unfold eM at h7;unfold eT at h8;unfold eY at h9;unfold fM;simp only[bK];refine⟨rfl,?_⟩;simp only[aI];refine⟨?_,trivial⟩;simp only[nn,List.cons_append,List.nil_append,Bool.or_eq_true,aP,ne_eq]at *;generalize G 83 [l0,0,0]=c0 at *;generalize G 83 [l0,1,0]=c1 at *;generalize G 83 [l0,2,0]=c2 at *;generalize G 83 [l0,3,0]=c3 at *;generalize G 83 [l0,4,0]=c4 at *;generalize G 83 [l0,5,0]=c5 at *;generalize G 83 [l0,6,0]=c6 at *;generalize G 83 [l0,7,0]=c7 at *;(try simp only[Bool.and_eq_true,Bool.or_eq_true,decide_eq_true_eq]at *);rw[Bool.eq_iff_iff];simp only[Bool.and_eq_true,Bool.or_eq_true,decide_eq_true_eq];omega
 refine aG eC (fun h10=>?_) (fun h10=>?_)
 ·skip
  refine aH aRb ?_
  unfold dD at h0;unfold dH at h1;unfold dJ at h2;unfold dN at h3;unfold dT at h4;unfold eA at h5;unfold eE at h6;unfold eM at h7;unfold eT at h8;unfold eY at h9;unfold eC at h10;unfold aB5;simp only[bK];refine⟨rfl,?_⟩;simp only[aI];refine⟨?_,trivial⟩;simp only[nn,List.cons_append,List.nil_append,Bool.or_eq_true,aP,ne_eq]at *;generalize G 83 [l0,0,0]=c0 at *;generalize G 83 [l0,1,0]=c1 at *;generalize G 83 [l0,2,0]=c2 at *;generalize G 83 [l0,3,0]=c3 at *;generalize G 83 [l0,4,0]=c4 at *;generalize G 83 [l0,5,0]=c5 at *;generalize G 83 [l0,6,0]=c6 at *;generalize G 83 [l0,7,0]=c7 at *;(try simp only[Bool.and_eq_true,Bool.or_eq_true,decide_eq_true_eq]at *);rw[Bool.eq_iff_iff];simp only[Bool.and_eq_true,Bool.or_eq_true,decide_eq_true_eq];omega
 refine aG eJ (fun h11=>?_) (fun h11=>?_)
 ·skip
  refine aH aP8 ?_
  unfold dD at h0;unfold dH at h1;unfold dJ at h2;unfold dN at h3;unfold dT at h4;unfold eA at h5;unfold eE at h6;unfold eM at h7;unfold eT at h8;unfold eY at h9;unfold eC at h10;unfold eJ at h11;unfold aB5;simp only[bK];refine⟨rfl,?_⟩;simp only[aI];refine⟨?_,trivial⟩;simp only[nn,List.cons_append,List.nil_append,Bool.or_eq_true,aP,ne_eq]at *;generalize G 83 [l0,0,0]=c0 at *;generalize G 83 [l0,1,0]=c1 at *;generalize G 83 [l0,2,0]=c2 at *;generalize G 83 [l0,3,0]=c3 at *;generalize G 83 [l0,4,0]=c4 at *;generalize G 83 [l0,5,0]=c5 at *;generalize G 83 [l0,6,0]=c6 at *;generalize G 83 [l0,7,0]=c7 at *;(try simp only[Bool.and_eq_true,Bool.or_eq_true,decide_eq_true_eq]at *);rw[Bool.eq_iff_iff];simp only[Bool.and_eq_true,Bool.or_eq_true,decide_eq_true_eq];omega
 refine aG eQ (fun h12=>?_) (fun h12=>?_)
 rotate_left
 ·skip
  refine aH aQA ?_
  unfold dD at h0;unfold dH at h1;unfold dJ at h2;unfold dN at h3;unfold dT at h4;unfold eA at h5;unfold eE at h6;unfold eM at h7;unfold eT at h8;unfold eY at h9;unfold eC at h10;unfold eJ at h11;unfold eQ at h12;unfold fM;simp only[bK];refine⟨rfl,?_⟩;simp only[aI];refine⟨?_,trivial⟩;simp only[nn,List.cons_append,List.nil_append,Bool.or_eq_true,aP,ne_eq]at *;generalize G 83 [l0,0,0]=c0 at *;generalize G 83 [l0,1,0]=c1 at *;generalize G 83 [l0,2,0]=c2 at *;generalize G 83 [l0,3,0]=c3 at *;generalize G 83 [l0,4,0]=c4 at *;generalize G 83 [l0,5,0]=c5 at *;generalize G 83 [l0,6,0]=c6 at *;generalize G 83 [l0,7,0]=c7 at *;(try simp only[Bool.and_eq_true,Bool.or_eq_true,decide_eq_true_eq]at *);rw[Bool.eq_iff_iff];simp only[Bool.and_eq_true,Bool.or_eq_true,decide_eq_true_eq];omega
 refine aG fA (fun h13=>?_) (fun h13=>?_)
 ·skip
  refine aH aO7 ?_
  unfold dD at h0;unfold dH at h1;unfold dJ at h2;unfold dN at h3;unfold dT at h4;unfold eA at h5;unfold eE at h6;unfold eM at h7;unfold eT at h8;unfold eY at h9;unfold eC at h10;unfold eJ at h11;unfold eQ at h12;unfold fA at h13;unfold aBo;simp only[bK];refine⟨rfl,?_⟩;simp only[aI];refine⟨?_,trivial⟩;simp only[nn,List.cons_append,List.nil_append,Bool.or_eq_true,aP,ne_eq]at *;generalize G 83 [l0,0,0]=c0 at *;generalize G 83 [l0,1,0]=c1 at *;generalize G 83 [l0,2,0]=c2 at *;generalize G 83 [l0,3,0]=c3 at *;generalize G 83 [l0,4,0]=c4 at *;generalize G 83 [l0,5,0]=c5 at *;generalize G 83 [l0,6,0]=c6 at *;generalize G 83 [l0,7,0]=c7 at *;(try simp only[Bool.and_eq_true,Bool.or_eq_true,decide_eq_true_eq]at *);rw[Bool.eq_iff_iff];simp only[Bool.and_eq_true,Bool.or_eq_true,decide_eq_true_eq];omega
 refine aG fQ (fun h14=>?_) (fun h14=>?_)
 ·skip
  refine aH aQI ?_
  unfold dD at h0;unfold dH at h1;unfold dJ at h2;unfold dN at h3;unfold dT at h4;unfold eA at h5;unfold eE at h6;unfold eM at h7;unfold eT at h8;unfold eY at h9;unfold eC at h10;unfold eJ at h11;unfold eQ at h12;unfold fA at h13;unfold fQ at h14;unfold aBo;simp only[bK];refine⟨rfl,?_⟩;simp only[aI];refine⟨?_,trivial⟩;simp only[nn,List.cons_append,List.nil_append,Bool.or_eq_true,aP,ne_eq]at *;generalize G 83 [l0,0,0]=c0 at *;generalize G 83 [l0,1,0]=c1 at *;generalize G 83 [l0,2,0]=c2 at *;generalize G 83 [l0,3,0]=c3 at *;generalize G 83 [l0,4,0]=c4 at *;generalize G 83 [l0,5,0]=c5 at *;generalize G 83 [l0,6,0]=c6 at *;generalize G 83 [l0,7,0]=c7 at *;(try simp only[Bool.and_eq_true,Bool.or_eq_true,decide_eq_true_eq]at *);rw[Bool.eq_iff_iff];simp only[Bool.and_eq_true,Bool.or_eq_true,decide_eq_true_eq];omega
 refine aG gF (fun h15=>?_) (fun h15=>?_)
 rotate_left
 ·skip
  refine aH aQt ?_
  unfold dD at h0;unfold dH at h1;unfold dJ at h2;unfold dN at h3;unfold dT at h4;unfold eA at h5;unfold eE at h6;unfold eM at h7;unfold eT at h8;unfold eY at h9;unfold eC at h10;unfold eJ at h11;unfold eQ at h12;unfold fA at h13;unfold fQ at h14;unfold gF at h15;unfold fM;simp only[bK];refine⟨rfl,?_⟩;simp only[aI];refine⟨?_,trivial⟩;simp only[nn,List.cons_append,List.nil_append,Bool.or_eq_true,aP,ne_eq]at *;generalize G 83 [l0,0,0]=c0 at *;generalize G 83 [l0,1,0]=c1 at *;generalize G 83 [l0,2,0]=c2 at *;generalize G 83 [l0,3,0]=c3 at *;generalize G 83 [l0,4,0]=c4 at *;generalize G 83 [l0,5,0]=c5 at *;generalize G 83 [l0,6,0]=c6 at *;generalize G 83 [l0,7,0]=c7 at *;(try simp only[Bool.and_eq_true,Bool.or_eq_true,decide_eq_true_eq]at *);rw[Bool.eq_iff_iff];simp only[Bool.and_eq_true,Bool.or_eq_true,decide_eq_true_eq];omega
 refine aG gQ (fun h16=>?_) (fun h16=>?_)
 ·skip
  refine aH aPw ?_
  unfold dD at h0;unfold dH at h1;unfold dJ at h2;unfold dN at h3;unfold dT at h4;unfold eA at h5;unfold eE at h6;unfold eM at h7;unfold eT at h8;unfold eY at h9;unfold eC at h10;unfold eJ at h11;unfold eQ at h12;unfold fA at h13;unfold fQ at h14;unfold gF at h15;unfold gQ at h16;unfold aBZ;simp only[bK];refine⟨rfl,?_⟩;simp only[aI];refine⟨?_,trivial⟩;simp only[nn,List.cons_append,List.nil_append,Bool.or_eq_true,aP,ne_eq]at *;generalize G 83 [l0,0,0]=c0 at *;generalize G 83 [l0,1,0]=c1 at *;generalize G 83 [l0,2,0]=c2 at *;generalize G 83 [l0,3,0]=c3 at *;generalize G 83 [l0,4,0]=c4 at *;generalize G 83 [l0,5,0]=c5 at *;generalize G 83 [l0,6,0]=c6 at *;generalize G 83 [l0,7,0]=c7 at *;(try simp only[Bool.and_eq_true,Bool.or_eq_true,decide_eq_true_eq]at *);rw[Bool.eq_iff_iff];simp only[Bool.and_eq_true,Bool.or_eq_true,decide_eq_true_eq];omega
 refine aG iP (fun h17=>?_) (fun h17=>?_)
 ·skip
  refine aH aNK ?_
  unfold dD at h0;unfold dH at h1;unfold dJ at h2;unfold dN at h3;unfold dT at h4;unfold eA at h5;unfold eE at h6;unfold eM at h7;unfold eT at h8;unfold eY at h9;unfold eC at h10;unfold eJ at h11;unfold eQ at h12;unfold fA at h13;unfold fQ at h14;unfold gF at h15;unfold gQ at h16;unfold iP at h17;unfold aBZ;simp only[bK];refine⟨rfl,?_⟩;simp only[aI];refine⟨?_,trivial⟩;simp only[nn,List.cons_append,List.nil_append,Bool.or_eq_true,aP,ne_eq]at *;generalize G 83 [l0,0,0]=c0 at *;generalize G 83 [l0,1,0]=c1 at *;generalize G 83 [l0,2,0]=c2 at *;generalize G 83 [l0,3,0]=c3 at *;generalize G 83 [l0,4,0]=c4 at *;generalize G 83 [l0,5,0]=c5 at *;generalize G 83 [l0,6,0]=c6 at *;generalize G 83 [l0,7,0]=c7 at *;(try simp only[Bool.and_eq_true,Bool.or_eq_true,decide_eq_true_eq]at *);rw[Bool.eq_iff_iff];simp only[Bool.and_eq_true,Bool.or_eq_true,decide_eq_true_eq];omega
 refine aG jY (fun h18=>?_) (fun h18=>?_)
 rotate_left
 ·skip
  refine aH aPj ?_
  unfold dD at h0;unfold dH at h1;unfold dJ at h2;unfold dN at h3;unfold dT at h4;unfold eA at h5;unfold eE at h6;unfold eM at h7;unfold eT at h8;unfold eY at h9;unfold eC at h10;unfold eJ at h11;unfold eQ at h12;unfold fA at h13;unfold fQ at h14;unfold gF at h15;unfold gQ at h16;unfold iP at h17;unfold jY at h18;unfold fM;simp only[bK];refine⟨rfl,?_⟩;simp only[aI];refine⟨?_,trivial⟩;simp only[nn,List.cons_append,List.nil_append,Bool.or_eq_true,aP,ne_eq]at *;generalize G 83 [l0,0,0]=c0 at *;generalize G 83 [l0,1,0]=c1 at *;generalize G 83 [l0,2,0]=c2 at *;generalize G 83 [l0,3,0]=c3 at *;generalize G 83 [l0,4,0]=c4 at *;generalize G 83 [l0,5,0]=c5 at *;generalize G 83 [l0,6,0]=c6 at *;generalize G 83 [l0,7,0]=c7 at *;(try simp only[Bool.and_eq_true,Bool.or_eq_true,decide_eq_true_eq]at *);rw[Bool.eq_iff_iff];simp only[Bool.and_eq_true,Bool.or_eq_true,decide_eq_true_eq];omega
 refine aG kS (fun h19=>?_) (fun h19=>?_)
 ·skip
  refine aH aR0 ?_
  unfold dD at h0;unfold dH at h1;unfold dJ at h2;unfold dN at h3;unfold dT at h4;unfold eA at h5;unfold eE at h6;unfold eM at h7;unfold eT at h8;unfold eY at h9;unfold eC at h10;unfold eJ at h11;unfold eQ at h12;unfold fA at h13;unfold fQ at h14;unfold gF at h15;unfold gQ at h16;unfold iP at h17;unfold jY at h18;unfold kS at h19;unfold aC0;simp only[bK];refine⟨rfl,?_⟩;simp only[aI];refine⟨?_,trivial⟩;simp only[nn,List.cons_append,List.nil_append,Bool.or_eq_true,aP,ne_eq]at *;generalize G 83 [l0,0,0]=c0 at *;generalize G 83 [l0,1,0]=c1 at *;generalize G 83 [l0,2,0]=c2 at *;generalize G 83 [l0,3,0]=c3 at *;generalize G 83 [l0,4,0]=c4 at *;generalize G 83 [l0,5,0]=c5 at *;generalize G 83 [l0,6,0]=c6 at *;generalize G 83 [l0,7,0]=c7 at *;(try simp only[Bool.and_eq_true,Bool.or_eq_true,decide_eq_true_eq]at *);rw[Bool.eq_iff_iff];simp only[Bool.and_eq_true,Bool.or_eq_true,decide_eq_true_eq];omega
 refine aG mF (fun h20=>?_) (fun h20=>?_)
 ·skip
  refine aH aO9 ?_
  unfold dD at h0;unfold dH at h1;unfold dJ at h2;unfold dN at h3;unfold dT at h4;unfold eA at h5;unfold eE at h6;unfold eM at h7;unfold eT at h8;unfold eY at h9;unfold eC at h10;unfold eJ at h11;unfold eQ at h12;unfold fA at h13;unfold fQ at h14;unfold gF at h15;unfold gQ at h16;unfold iP at h17;unfold jY at h18;unfold kS at h19;unfold mF at h20;unfold aC0;simp only[bK];refine⟨rfl,?_⟩;simp only[aI];refine⟨?_,trivial⟩;simp only[nn,List.cons_append,List.nil_append,Bool.or_eq_true,aP,ne_eq]at *;generalize G 83 [l0,0,0]=c0 at *;generalize G 83 [l0,1,0]=c1 at *;generalize G 83 [l0,2,0]=c2 at *;generalize G 83 [l0,3,0]=c3 at *;generalize G 83 [l0,4,0]=c4 at *;generalize G 83 [l0,5,0]=c5 at *;generalize G 83 [l0,6,0]=c6 at *;generalize G 83 [l0,7,0]=c7 at *;(try simp only[Bool.and_eq_true,Bool.or_eq_true,decide_eq_true_eq]at *);rw[Bool.eq_iff_iff];simp only[Bool.and_eq_true,Bool.or_eq_true,decide_eq_true_eq];omega
 refine aG nU (fun h21=>?_) (fun h21=>?_)
 rotate_left
 ·skip
  refine aH aSL ?_
  unfold dD at h0;unfold dH at h1;unfold dJ at h2;unfold dN at h3;unfold dT at h4;unfold eA at h5;unfold eE at h6;unfold eM at h7;unfold eT at h8;unfold eY at h9;unfold eC at h10;unfold eJ at h11;unfold eQ at h12;unfold fA at h13;unfold fQ at h14;unfold gF at h15;unfold gQ at h16;unfold iP at h17;unfold jY at h18;unfold kS at h19;unfold mF at h20;unfold nU at h21;unfold fM;simp only[bK];refine⟨rfl,?_⟩;simp only[aI];refine⟨?_,trivial⟩;simp only[nn,List.cons_append,List.nil_append,Bool.or_eq_true,aP,ne_eq]at *;generalize G 83 [l0,0,0]=c0 at *;generalize G 83 [l0,1,0]=c1 at *;generalize G 83 [l0,2,0]=c2 at *;generalize G 83 [l0,3,0]=c3 at *;generalize G 83 [l0,4,0]=c4 at *;generalize G 83 [l0,5,0]=c5 at *;generalize G 83 [l0,6,0]=c6 at *;generalize G 83 [l0,7,0]=c7 at *;(try simp only[Bool.and_eq_true,Bool.or_eq_true,decide_eq_true_eq]at *);rw[Bool.eq_iff_iff];simp only[Bool.and_eq_true,Bool.or_eq_true,decide_eq_true_eq];omega
 refine aG qQ (fun h22=>?_) (fun h22=>?_)
 ·skip
  refine aH aNL ?_
  unfold dD at h0;unfold dH at h1;unfold dJ at h2;unfold dN at h3;unfold dT at h4;unfold eA at h5;unfold eE at h6;unfold eM at h7;unfold eT at h8;unfold eY at h9;unfold eC at h10;unfold eJ at h11;unfold eQ at h12;unfold fA at h13;unfold fQ at h14;unfold gF at h15;unfold gQ at h16;unfold iP at h17;unfold jY at h18;unfold kS at h19;unfold mF at h20;unfold nU at h21;unfold qQ at h22;unfold aCl;simp only[bK];refine⟨rfl,?_⟩;simp only[aI];refine⟨?_,trivial⟩;simp only[nn,List.cons_append,List.nil_append,Bool.or_eq_true,aP,ne_eq]at *;generalize G 83 [l0,0,0]=c0 at *;generalize G 83 [l0,1,0]=c1 at *;generalize G 83 [l0,2,0]=c2 at *;generalize G 83 [l0,3,0]=c3 at *;generalize G 83 [l0,4,0]=c4 at *;generalize G 83 [l0,5,0]=c5 at *;generalize G 83 [l0,6,0]=c6 at *;generalize G 83 [l0,7,0]=c7 at *;(try simp only[Bool.and_eq_true,Bool.or_eq_true,decide_eq_true_eq]at *);rw[Bool.eq_iff_iff];simp only[Bool.and_eq_true,Bool.or_eq_true,decide_eq_true_eq];omega
 refine aG sN (fun h23=>?_) (fun h23=>?_)
 ·skip
  refine aH aOe ?_
  unfold dD at h0;unfold dH at h1;unfold dJ at h2;unfold dN at h3;unfold dT at h4;unfold eA at h5;unfold eE at h6;unfold eM at h7;unfold eT at h8;unfold eY at h9;unfold eC at h10;unfold eJ at h11;unfold eQ at h12;unfold fA at h13;unfold fQ at h14;unfold gF at h15;unfold gQ at h16;unfold iP at h17;unfold jY at h18;unfold kS at h19;unfold mF at h20;unfold nU at h21;unfold qQ at h22;unfold sN at h23;unfold aCl;simp only[bK];refine⟨rfl,?_⟩;simp only[aI];refine⟨?_,trivial⟩;simp only[nn,List.cons_append,List.nil_append,Bool.or_eq_true,aP,ne_eq]at *;generalize G 83 [l0,0,0]=c0 at *;generalize G 83 [l0,1,0]=c1 at *;generalize G 83 [l0,2,0]=c2 at *;generalize G 83 [l0,3,0]=c3 at *;generalize G 83 [l0,4,0]=c4 at *;generalize G 83 [l0,5,0]=c5 at *;generalize G 83 [l0,6,0]=c6 at *;generalize G 83 [l0,7,0]=c7 at *;(try simp only[Bool.and_eq_true,Bool.or_eq_true,decide_eq_true_eq]at *);rw[Bool.eq_iff_iff];simp only[Bool.and_eq_true,Bool.or_eq_true,decide_eq_true_eq];omega
 refine aH aOQ ?_
 unfold dD at h0;unfold dH at h1;unfold dJ at h2;unfold dN at h3;unfold dT at h4;unfold eA at h5;unfold eE at h6;unfold eM at h7;unfold eT at h8;unfold eY at h9;unfold eC at h10;unfold eJ at h11;unfold eQ at h12;unfold fA at h13;unfold fQ at h14;unfold gF at h15;unfold gQ at h16;unfold iP at h17;unfold jY at h18;unfold kS at h19;unfold mF at h20;unfold nU at h21;unfold qQ at h22;unfold sN at h23;unfold fM;simp only[bK];refine⟨rfl,?_⟩;simp only[aI];refine⟨?_,trivial⟩;simp only[nn,List.cons_append,List.nil_append,Bool.or_eq_true,aP,ne_eq]at *;generalize G 83 [l0,0,0]=c0 at *;generalize G 83 [l0,1,0]=c1 at *;generalize G 83 [l0,2,0]=c2 at *;generalize G 83 [l0,3,0]=c3 at *;generalize G 83 [l0,4,0]=c4 at *;generalize G 83 [l0,5,0]=c5 at *;generalize G 83 [l0,6,0]=c6 at *;generalize G 83 [l0,7,0]=c7 at *;(try simp only[Bool.and_eq_true,Bool.or_eq_true,decide_eq_true_eq]at *);rw[Bool.eq_iff_iff];simp only[Bool.and_eq_true,Bool.or_eq_true,decide_eq_true_eq];omega
def aEj:Ctx→List SV→aM→Res (SV × aM):=dZ GB [(0,8)] 1 (.lit true) aTX
theorem aWn {X:Ctx} {ρ:Nat→Int} (hX:X.Ok ρ) (hG:X.G=G):eU Try.prog X ρ GB 70 aEj:=by
 obtain⟨XG,XI,XV,XF⟩:=X
 simp only at hG
 subst hG
 refine cU hX ?_
 intro xs ls hw hl hp
 obtain⟨x0,y0,e0,b0,h0⟩:=aY hw
 have e1:=jS h0
 subst e1 e0
 obtain⟨l0,z0,q0,hl0⟩:=bJ hl
 have q1:=List.length_eq_zero_iff.1 hl0
 subst q1 q0
 exact aTM x0 l0 b0
def aBa:Ctx→List SV→aM→Res (SV × aM):=rG aDx
theorem aUA {X:Ctx} {ρ:Nat→Int} (hX:X.Ok ρ) (hG:X.G=G):eU Try.prog X ρ GB 91 aBa:=nC hX (aWN hX hG)
def aAJ:Ctx→List SV→aM→Res (SV × aM):=rG aDo
theorem aU2 {X:Ctx} {ρ:Nat→Int} (hX:X.Ok ρ) (hG:X.G=G):eU Try.prog X ρ GB 91 aAJ:=nC hX (aWO hX hG)
def aBe:Ctx→List SV→aM→Res (SV × aM):=rG aEj
theorem aVA {X:Ctx} {ρ:Nat→Int} (hX:X.Ok ρ) (hG:X.G=G):eU Try.prog X ρ GB 70 aBe:=nC hX (aWn hX hG)
def aS3:bA:=fT 91 (aBR aBa aAJ) gN
theorem aJB {X:Ctx} {ρ:Nat→Int} (hX:X.Ok ρ) (hG:X.G=G):fF Try.prog X ρ GB aS3:=dM (aA4 (aUA hX hG) (aU2 hX hG)) (dA hX hG)
def aTo:bA:=fT 70 aBe aS3
theorem aKJ {X:Ctx} {ρ:Nat→Int} (hX:X.Ok ρ) (hG:X.G=G):fF Try.prog X ρ GB aTo:=dM (aVA hX hG) (aJB hX hG)
def aXj:B:=(.lit true)
def aUN:FunS:=⟨[(.slice 0 0 6 6),(.int .i64 (.var 0))],[some ([(.int .i64 (.lit 1)),(.int .i64 (.lit 2)),(.int .i64 (.lit 4)),(.int .i64 (.lit 8)),(.int .i64 (.lit 12)),(.int .i64 (.lit 16))],3)],aXj,(.bool (.or (.cmp .eq (.var 0) (.lit 1)) (.or (.cmp .eq (.var 0) (.lit 2)) (.or (.cmp .eq (.var 0) (.lit 4)) (.or (.cmp .eq (.var 0) (.lit 8)) (.or (.cmp .eq (.var 0) (.lit 12)) (.cmp .eq (.var 0) (.lit 16)))))))),[some ([(.int .i64 (.lit 1)),(.int .i64 (.lit 2)),(.int .i64 (.lit 4)),(.int .i64 (.lit 8)),(.int .i64 (.lit 12)),(.int .i64 (.lit 16))],3)],(.bool (.or (.cmp .eq (.var 0) (.lit 1)) (.or (.cmp .eq (.var 0) (.lit 2)) (.or (.cmp .eq (.var 0) (.lit 4)) (.or (.cmp .eq (.var 0) (.lit 8)) (.or (.cmp .eq (.var 0) (.lit 12)) (.cmp .eq (.var 0) (.lit 16)))))))),[some ([(.int .i64 (.lit 1)),(.int .i64 (.lit 2)),(.int .i64 (.lit 4)),(.int .i64 (.lit 8)),(.int .i64 (.lit 12)),(.int .i64 (.lit 16))],3)]⟩
def aLH (P:Program) (fs:List B):Res SV:=cB G GI [((-9223372036854775808),9223372036854775807)] fs fun X=>gJ P X GB gN dQ 4000 72 aUN
end Go.Proofs.Ytdldallkeheciaa
set_option maxRecDepth 100000
namespace Go.Proofs.Ytdldallkeheciaa
open Go Go.RowKit Sx Wi Lk
def yD (P:Program) (fs:List B):Res SV:=aLH P fs
def aLo:List B:=[]
def mK:B:=(.cmp .eq (.var 0) (.lit 1))
def aVr:List B:=aJ mK++aLo
def aKm:List B:=aJ (B.neg mK)++aLo
def nZ:B:=(.cmp .eq (.var 0) (.lit 2))
def aT7:List B:=aJ nZ++aKm
def aJk:List B:=aJ (B.neg nZ)++aKm
def qD:B:=(.cmp .eq (.var 0) (.lit 4))
def aVV:List B:=aJ qD++aJk
def aMz:List B:=aJ (B.neg qD)++aJk
def sE:B:=(.cmp .eq (.var 0) (.lit 8))
def aUD:List B:=aJ sE++aMz
def aJj:List B:=aJ (B.neg sE)++aMz
def uR:B:=(.cmp .eq (.var 0) (.lit 12))
def aVa:List B:=aJ uR++aJj
def aGh:List B:=aJ (B.neg uR)++aJj
def yN:B:=(.cmp .eq (.var 0) (.lit 16))
def aSK:List B:=aJ yN++aGh
def aQK:List B:=aJ (B.neg yN)++aGh
theorem aV0:yD Try.prog aVr = .ok (.tuple [(.agg [(.bool (.cmp .le (.lit 0) (.lit 0))),(.bool (.or (.cmp .eq (.var 0) (.lit 1)) (.or (.cmp .eq (.var 0) (.lit 2)) (.or (.cmp .eq (.var 0) (.lit 4)) (.or (.cmp .eq (.var 0) (.lit 8)) (.or (.cmp .eq (.var 0) (.lit 12)) (.cmp .eq (.var 0) (.lit 16))))))))]),(.bool (.lit true))]):=by kernel_rfl
theorem aVw:yD Try.prog aT7 = .ok (.tuple [(.agg [(.bool (.cmp .le (.lit 0) (.lit 1))),(.bool (.or (.cmp .eq (.var 0) (.lit 1)) (.or (.cmp .eq (.var 0) (.lit 2)) (.or (.cmp .eq (.var 0) (.lit 4)) (.or (.cmp .eq (.var 0) (.lit 8)) (.or (.cmp .eq (.var 0) (.lit 12)) (.cmp .eq (.var 0) (.lit 16))))))))]),(.bool (.lit true))]):=by kernel_rfl
theorem aT5:yD Try.prog aVV = .ok (.tuple [(.agg [(.bool (.cmp .le (.lit 0) (.lit 2))),(.bool (.or (.cmp .eq (.var 0) (.lit 1)) (.or (.cmp .eq (.var 0) (.lit 2)) (.or (.cmp .eq (.var 0) (.lit 4)) (.or (.cmp .eq (.var 0) (.lit 8)) (.or (.cmp .eq (.var 0) (.lit 12)) (.cmp .eq (.var 0) (.lit 16))))))))]),(.bool (.lit true))]):=by kernel_rfl
theorem aTy:yD Try.prog aUD = .ok (.tuple [(.agg [(.bool (.cmp .le (.lit 0) (.lit 3))),(.bool (.or (.cmp .eq (.var 0) (.lit 1)) (.or (.cmp .eq (.var 0) (.lit 2)) (.or (.cmp .eq (.var 0) (.lit 4)) (.or (.cmp .eq (.var 0) (.lit 8)) (.or (.cmp .eq (.var 0) (.lit 12)) (.cmp .eq (.var 0) (.lit 16))))))))]),(.bool (.lit true))]):=by kernel_rfl
theorem aU6:yD Try.prog aVa = .ok (.tuple [(.agg [(.bool (.cmp .le (.lit 0) (.lit 4))),(.bool (.or (.cmp .eq (.var 0) (.lit 1)) (.or (.cmp .eq (.var 0) (.lit 2)) (.or (.cmp .eq (.var 0) (.lit 4)) (.or (.cmp .eq (.var 0) (.lit 8)) (.or (.cmp .eq (.var 0) (.lit 12)) (.cmp .eq (.var 0) (.lit 16))))))))]),(.bool (.lit true))]):=by kernel_rfl
theorem aQM:yD Try.prog aSK = .ok (.tuple [(.agg [(.bool (.cmp .le (.lit 0) (.lit 5))),(.bool (.or (.cmp .eq (.var 0) (.lit 1)) (.or (.cmp .eq (.var 0) (.lit 2)) (.or (.cmp .eq (.var 0) (.lit 4)) (.or (.cmp .eq (.var 0) (.lit 8)) (.or (.cmp .eq (.var 0) (.lit 12)) (.cmp .eq (.var 0) (.lit 16))))))))]),(.bool (.lit true))]):=by kernel_rfl
theorem aQd:yD Try.prog aQK = .ok (.tuple [(.agg [(.bool (.cmp .le (.lit 0) (.lit (-1)))),(.bool (.or (.cmp .eq (.var 0) (.lit 1)) (.or (.cmp .eq (.var 0) (.lit 2)) (.or (.cmp .eq (.var 0) (.lit 4)) (.or (.cmp .eq (.var 0) (.lit 8)) (.or (.cmp .eq (.var 0) (.lit 12)) (.cmp .eq (.var 0) (.lit 16))))))))]),(.bool (.lit true))]):=by kernel_rfl
end Go.Proofs.Ytdldallkeheciaa
namespace Go.Proofs.Ytdldallkeheciaa
open Go Go.RowKit Sx Wi Lk
set_option maxHeartbeats 8000000 in
set_option maxRecDepth 100000 in
theorem aTz (x0:Int) (b0:(-9223372036854775808)≤x0∧x0≤9223372036854775807):gD Try.prog G GB 72 aUN (cR ([x0]++[])):=by
 refine cX (lp:=dQ) (run:=aLH Try.prog) (fun _=>rfl) fits (bP (xs:=[x0]) (ls:=[]) (by exact⟨b0,trivial⟩)) eS (fun X hX hG=>dA hX hG) (fun X hX hG fn c hf hc=>cG) rfl ?_
 refine aG mK (fun h0=>?_) (fun h0=>?_)
 ·skip
  refine aH aV0 ?_
  unfold mK at h0;simp only[bK];refine⟨rfl,?_⟩;simp only[aI];refine⟨?_,trivial⟩;simp only[nn,List.cons_append,List.nil_append,Bool.or_eq_true,aP,ne_eq]at *;rw[Bool.eq_iff_iff];simp only[Bool.and_eq_true,Bool.or_eq_true,decide_eq_true_eq];omega
 refine aG nZ (fun h1=>?_) (fun h1=>?_)
 ·skip
  refine aH aVw ?_
  unfold mK at h0;unfold nZ at h1;simp only[bK];refine⟨rfl,?_⟩;simp only[aI];refine⟨?_,trivial⟩;simp only[nn,List.cons_append,List.nil_append,Bool.or_eq_true,aP,ne_eq]at *;rw[Bool.eq_iff_iff];simp only[Bool.and_eq_true,Bool.or_eq_true,decide_eq_true_eq];omega
 refine aG qD (fun h2=>?_) (fun h2=>?_)
 ·skip
  refine aH aT5 ?_
  unfold mK at h0;unfold nZ at h1;unfold qD at h2;simp only[bK];refine⟨rfl,?_⟩;simp only[aI];refine⟨?_,trivial⟩;simp only[nn,List.cons_append,List.nil_append,Bool.or_eq_true,aP,ne_eq]at *;rw[Bool.eq_iff_iff];simp only[Bool.and_eq_true,Bool.or_eq_true,decide_eq_true_eq];omega
 refine aG sE (fun h3=>?_) (fun h3=>?_)
 ·skip
  refine aH aTy ?_
  unfold mK at h0;unfold nZ at h1;unfold qD at h2;unfold sE at h3;simp only[bK];refine⟨rfl,?_⟩;simp only[aI];refine⟨?_,trivial⟩;simp only[nn,List.cons_append,List.nil_append,Bool.or_eq_true,aP,ne_eq]at *;rw[Bool.eq_iff_iff];simp only[Bool.and_eq_true,Bool.or_eq_true,decide_eq_true_eq];omega
 refine aG uR (fun h4=>?_) (fun h4=>?_)
 ·skip
  refine aH aU6 ?_
  unfold mK at h0;unfold nZ at h1;unfold qD at h2;unfold sE at h3;unfold uR at h4;simp only[bK];refine⟨rfl,?_⟩;simp only[aI];refine⟨?_,trivial⟩;simp only[nn,List.cons_append,List.nil_append,Bool.or_eq_true,aP,ne_eq]at *;rw[Bool.eq_iff_iff];simp only[Bool.and_eq_true,Bool.or_eq_true,decide_eq_true_eq];omega
 refine aG yN (fun h5=>?_) (fun h5=>?_)
 ·skip
  refine aH aQM ?_
  unfold mK at h0;unfold nZ at h1;unfold qD at h2;unfold sE at h3;unfold uR at h4;unfold yN at h5;simp only[bK];refine⟨rfl,?_⟩;simp only[aI];refine⟨?_,trivial⟩;simp only[nn,List.cons_append,List.nil_append,Bool.or_eq_true,aP,ne_eq]at *;rw[Bool.eq_iff_iff];simp only[Bool.and_eq_true,Bool.or_eq_true,decide_eq_true_eq];omega
 refine aH aQd ?_
 unfold mK at h0;unfold nZ at h1;unfold qD at h2;unfold sE at h3;unfold uR at h4;unfold yN at h5;simp only[bK];refine⟨rfl,?_⟩;simp only[aI];refine⟨?_,trivial⟩;simp only[nn,List.cons_append,List.nil_append,Bool.or_eq_true,aP,ne_eq]at *;rw[Bool.eq_iff_iff];simp only[Bool.and_eq_true,Bool.or_eq_true,decide_eq_true_eq];omega
def aDq:Ctx→List SV→aM→Res (SV × aM):=dZ GB [((-9223372036854775808),9223372036854775807)] 0 (.lit true) aUN
theorem aWQ {X:Ctx} {ρ:Nat→Int} (hX:X.Ok ρ) (hG:X.G=G):eU Try.prog X ρ GB 72 aDq:=by
 obtain⟨XG,XI,XV,XF⟩:=X
 simp only at hG
 subst hG
 refine cU hX ?_
 intro xs ls hw hl hp
 obtain⟨x0,y0,e0,b0,h0⟩:=aY hw
 have e1:=jS h0
 subst e1 e0
 have q0:=List.length_eq_zero_iff.1 hl
 subst q0
 exact aTz x0 b0
def aAQ:Ctx→List SV→aM→Res (SV × aM):=rG aDq
theorem aWd {X:Ctx} {ρ:Nat→Int} (hX:X.Ok ρ) (hG:X.G=G):eU Try.prog X ρ GB 72 aAQ:=nC hX (aWQ hX hG)
def aJ1:bA:=fT 72 aAQ aTo
theorem aDC {X:Ctx} {ρ:Nat→Int} (hX:X.Ok ρ) (hG:X.G=G):fF Try.prog X ρ GB aJ1:=dM (aWd hX hG) (aKJ hX hG)
def aXe:B:=(.lit true)
def aTv:FunS:=⟨[(.agg [(.int .u8 (.var 0)),(.own 0 (.var 1) none),(.own 1 (.var 2) none),(.own 2 (.var 3) none),(.int .i64 (.var 4)),(.own 3 (.var 5) none),(.own 4 (.var 6) none),(.own 5 (.var 7) none),.any,.any,.any,.any,.any,.any])],[some ([.vec [.int .i32,.int .i32] (.var 8) (.var 1) true],aF),some ([.vec [.int .i32,.int .i32] (.var 9) (.var 2) true],aF),some ([.vec [.int .i64] (.var 10) (.var 3) true],aF),some ([.vec [.int .i32,.int .i32] (.var 11) (.var 5) true],aF),some ([.vec [.int .i32,.int .i32] (.var 12) (.var 6) true],aF),some ([.vec [.int .u8] (.var 13) (.var 7) true],aF)],aXe,(.bool bV),[some ([.vec [.int .i32,.int .i32] (.var 8) (.var 1) true],aF),some ([.vec [.int .i32,.int .i32] (.var 9) (.var 2) true],aF),some ([.vec [.int .i64] (.var 10) (.var 3) true],aF),some ([.vec [.int .i32,.int .i32] (.var 11) (.var 5) true],aF),some ([.vec [.int .i32,.int .i32] (.var 12) (.var 6) true],aF),some ([.vec [.int .u8] (.var 13) (.var 7) true],aF)],(.bool bV),[some ([.vec [.int .i32,.int .i32] (.var 8) (.var 1) true],aF),some ([.vec [.int .i32,.int .i32] (.var 9) (.var 2) true],aF),some ([.vec [.int .i64] (.var 10) (.var 3) true],aF),some ([.vec [.int .i32,.int .i32] (.var 11) (.var 5) true],aF),some ([.vec [.int .i32,.int .i32] (.var 12) (.var 6) true],aF),some ([.vec [.int .u8] (.var 13) (.var 7) true],aF)]⟩
def aJq (P:Program) (fs:List B):Res SV:=cB G GI [(0,255),(0,8),(0,8),(0,8),((-9223372036854775808),9223372036854775807),(0,8),(0,8),(0,70000)] fs fun X=>gJ P X GB aJ1 dQ 4000 40 aTv
end Go.Proofs.Ytdldallkeheciaa
