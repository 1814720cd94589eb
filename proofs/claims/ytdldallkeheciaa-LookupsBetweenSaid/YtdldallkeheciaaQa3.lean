/- What is proved: what some functions leave,as it is told. No condition but the numbers' own bounds. -/
import Derived.Test.YtdldallkeheciaaQNn
import Derived.Test.YtdldallkeheciaaQa1
import Derived.Test.YtdldallkeheciaaQa2
import Derived.Test.YtdldallkeheciaaQg4
import Derived.Test.YtdldallkeheciaaProg
set_option linter.unusedSimpArgs false
set_option linter.unusedVariables false
namespace Go.Proofs.Ytdldallkeheciaa
open Go Go.RowKit Sx Wi Lk
set_option maxHeartbeats 8000000 in
set_option maxRecDepth 100000 in
theorem aR7 (x0 l0:Int) (b0:1≤x0∧x0≤4):fX Try.prog G GB 91 aSu (dM ([x0]++[l0])):=by
 refine dB (lp:=eG) (run:=aIX Try.prog) (fun _=>rfl) fits (cM (xs:=[x0]) (ls:=[l0]) (by exact⟨b0,trivial⟩)) iJ (fun X hX hG=>eL hX hG) (fun X hX hG fn c hf hc=>dD) rfl ?_
 refine aF gT (fun h0=>?_) (fun h0=>?_)
 ·skip
  refine aH aRG ?_
  unfold gT at h0;unfold aB0;simp only[bI];refine⟨rfl,?_⟩;simp only[aJ];refine⟨?_,trivial⟩;simp only[nn,List.cons_append,List.nil_append,Bool.or_eq_true,aR,ne_eq]at *;generalize G 82 [l0,0,0]=c0 at *;generalize G 82 [l0,0,1]=c1 at *;generalize G 82 [l0,1,0]=c2 at *;generalize G 82 [l0,1,1]=c3 at *;generalize G 82 [l0,2,0]=c4 at *;generalize G 82 [l0,2,1]=c5 at *;generalize G 82 [l0,3,0]=c6 at *;generalize G 82 [l0,3,1]=c7 at *;(try simp only[Bool.and_eq_true,Bool.or_eq_true,decide_eq_true_eq]at *);rw[Bool.eq_iff_iff];simp only[Bool.and_eq_true,Bool.or_eq_true,decide_eq_true_eq];omega
 refine aF iB (fun h1=>?_) (fun h1=>?_)
 ·skip
  refine aH aRf ?_
  unfold gT at h0;unfold iB at h1;unfold aB0;simp only[bI];refine⟨rfl,?_⟩;simp only[aJ];refine⟨?_,trivial⟩;simp only[nn,List.cons_append,List.nil_append,Bool.or_eq_true,aR,ne_eq]at *;generalize G 82 [l0,0,0]=c0 at *;generalize G 82 [l0,0,1]=c1 at *;generalize G 82 [l0,1,0]=c2 at *;generalize G 82 [l0,1,1]=c3 at *;generalize G 82 [l0,2,0]=c4 at *;generalize G 82 [l0,2,1]=c5 at *;generalize G 82 [l0,3,0]=c6 at *;generalize G 82 [l0,3,1]=c7 at *;(try simp only[Bool.and_eq_true,Bool.or_eq_true,decide_eq_true_eq]at *);rw[Bool.eq_iff_iff];simp only[Bool.and_eq_true,Bool.or_eq_true,decide_eq_true_eq];omega
 refine aF iZ (fun h2=>?_) (fun h2=>?_)
 rotate_left
 ·skip
  refine aH aQb ?_
  unfold gT at h0;unfold iB at h1;unfold iZ at h2;unfold qB;simp only[bI];refine⟨rfl,?_⟩;simp only[aJ];refine⟨?_,trivial⟩;simp only[nn,List.cons_append,List.nil_append,Bool.or_eq_true,aR,ne_eq]at *;generalize G 82 [l0,0,0]=c0 at *;generalize G 82 [l0,0,1]=c1 at *;generalize G 82 [l0,1,0]=c2 at *;generalize G 82 [l0,1,1]=c3 at *;generalize G 82 [l0,2,0]=c4 at *;generalize G 82 [l0,2,1]=c5 at *;generalize G 82 [l0,3,0]=c6 at *;generalize G 82 [l0,3,1]=c7 at *;(try simp only[Bool.and_eq_true,Bool.or_eq_true,decide_eq_true_eq]at *);rw[Bool.eq_iff_iff];simp only[Bool.and_eq_true,Bool.or_eq_true,decide_eq_true_eq];omega
 refine aF kH (fun h3=>?_) (fun h3=>?_)
 ·skip
  refine aH aS2 ?_
  unfold gT at h0;unfold iB at h1;unfold iZ at h2;unfold kH at h3;unfold aBk;simp only[bI];refine⟨rfl,?_⟩;simp only[aJ];refine⟨?_,trivial⟩;simp only[nn,List.cons_append,List.nil_append,Bool.or_eq_true,aR,ne_eq]at *;generalize G 82 [l0,0,0]=c0 at *;generalize G 82 [l0,0,1]=c1 at *;generalize G 82 [l0,1,0]=c2 at *;generalize G 82 [l0,1,1]=c3 at *;generalize G 82 [l0,2,0]=c4 at *;generalize G 82 [l0,2,1]=c5 at *;generalize G 82 [l0,3,0]=c6 at *;generalize G 82 [l0,3,1]=c7 at *;(try simp only[Bool.and_eq_true,Bool.or_eq_true,decide_eq_true_eq]at *);rw[Bool.eq_iff_iff];simp only[Bool.and_eq_true,Bool.or_eq_true,decide_eq_true_eq];omega
 refine aF lF (fun h4=>?_) (fun h4=>?_)
 ·skip
  refine aH aRe ?_
  unfold gT at h0;unfold iB at h1;unfold iZ at h2;unfold kH at h3;unfold lF at h4;unfold aBk;simp only[bI];refine⟨rfl,?_⟩;simp only[aJ];refine⟨?_,trivial⟩;simp only[nn,List.cons_append,List.nil_append,Bool.or_eq_true,aR,ne_eq]at *;generalize G 82 [l0,0,0]=c0 at *;generalize G 82 [l0,0,1]=c1 at *;generalize G 82 [l0,1,0]=c2 at *;generalize G 82 [l0,1,1]=c3 at *;generalize G 82 [l0,2,0]=c4 at *;generalize G 82 [l0,2,1]=c5 at *;generalize G 82 [l0,3,0]=c6 at *;generalize G 82 [l0,3,1]=c7 at *;(try simp only[Bool.and_eq_true,Bool.or_eq_true,decide_eq_true_eq]at *);rw[Bool.eq_iff_iff];simp only[Bool.and_eq_true,Bool.or_eq_true,decide_eq_true_eq];omega
 refine aF mD (fun h5=>?_) (fun h5=>?_)
 rotate_left
 ·skip
  refine aH aOV ?_
  unfold gT at h0;unfold iB at h1;unfold iZ at h2;unfold kH at h3;unfold lF at h4;unfold mD at h5;unfold qB;simp only[bI];refine⟨rfl,?_⟩;simp only[aJ];refine⟨?_,trivial⟩;simp only[nn,List.cons_append,List.nil_append,Bool.or_eq_true,aR,ne_eq]at *;generalize G 82 [l0,0,0]=c0 at *;generalize G 82 [l0,0,1]=c1 at *;generalize G 82 [l0,1,0]=c2 at *;generalize G 82 [l0,1,1]=c3 at *;generalize G 82 [l0,2,0]=c4 at *;generalize G 82 [l0,2,1]=c5 at *;generalize G 82 [l0,3,0]=c6 at *;generalize G 82 [l0,3,1]=c7 at *;(try simp only[Bool.and_eq_true,Bool.or_eq_true,decide_eq_true_eq]at *);rw[Bool.eq_iff_iff];simp only[Bool.and_eq_true,Bool.or_eq_true,decide_eq_true_eq];omega
 refine aF oL (fun h6=>?_) (fun h6=>?_)
 ·skip
  refine aH aO2 ?_
  unfold gT at h0;unfold iB at h1;unfold iZ at h2;unfold kH at h3;unfold lF at h4;unfold mD at h5;unfold oL at h6;unfold aA3;simp only[bI];refine⟨rfl,?_⟩;simp only[aJ];refine⟨?_,trivial⟩;simp only[nn,List.cons_append,List.nil_append,Bool.or_eq_true,aR,ne_eq]at *;generalize G 82 [l0,0,0]=c0 at *;generalize G 82 [l0,0,1]=c1 at *;generalize G 82 [l0,1,0]=c2 at *;generalize G 82 [l0,1,1]=c3 at *;generalize G 82 [l0,2,0]=c4 at *;generalize G 82 [l0,2,1]=c5 at *;generalize G 82 [l0,3,0]=c6 at *;generalize G 82 [l0,3,1]=c7 at *;(try simp only[Bool.and_eq_true,Bool.or_eq_true,decide_eq_true_eq]at *);rw[Bool.eq_iff_iff];simp only[Bool.and_eq_true,Bool.or_eq_true,decide_eq_true_eq];omega
 refine aF pH (fun h7=>?_) (fun h7=>?_)
 ·skip
  refine aH aOD ?_
  unfold gT at h0;unfold iB at h1;unfold iZ at h2;unfold kH at h3;unfold lF at h4;unfold mD at h5;unfold oL at h6;unfold pH at h7;unfold aA3;simp only[bI];refine⟨rfl,?_⟩;simp only[aJ];refine⟨?_,trivial⟩;simp only[nn,List.cons_append,List.nil_append,Bool.or_eq_true,aR,ne_eq]at *;generalize G 82 [l0,0,0]=c0 at *;generalize G 82 [l0,0,1]=c1 at *;generalize G 82 [l0,1,0]=c2 at *;generalize G 82 [l0,1,1]=c3 at *;generalize G 82 [l0,2,0]=c4 at *;generalize G 82 [l0,2,1]=c5 at *;generalize G 82 [l0,3,0]=c6 at *;generalize G 82 [l0,3,1]=c7 at *;(try simp only[Bool.and_eq_true,Bool.or_eq_true,decide_eq_true_eq]at *);rw[Bool.eq_iff_iff];simp only[Bool.and_eq_true,Bool.or_eq_true,decide_eq_true_eq];omega
 refine aF rL (fun h8=>?_) (fun h8=>?_)
 rotate_left
 ·skip
  refine aH aOG ?_
  unfold gT at h0;unfold iB at h1;unfold iZ at h2;unfold kH at h3;unfold lF at h4;unfold mD at h5;unfold oL at h6;unfold pH at h7;unfold rL at h8;unfold qB;simp only[bI];refine⟨rfl,?_⟩;simp only[aJ];refine⟨?_,trivial⟩;simp only[nn,List.cons_append,List.nil_append,Bool.or_eq_true,aR,ne_eq]at *;generalize G 82 [l0,0,0]=c0 at *;generalize G 82 [l0,0,1]=c1 at *;generalize G 82 [l0,1,0]=c2 at *;generalize G 82 [l0,1,1]=c3 at *;generalize G 82 [l0,2,0]=c4 at *;generalize G 82 [l0,2,1]=c5 at *;generalize G 82 [l0,3,0]=c6 at *;generalize G 82 [l0,3,1]=c7 at *;(try simp only[Bool.and_eq_true,Bool.or_eq_true,decide_eq_true_eq]at *);rw[Bool.eq_iff_iff];simp only[Bool.and_eq_true,Bool.or_eq_true,decide_eq_true_eq];omega
 refine aF uO (fun h9=>?_) (fun h9=>?_)
 ·skip
  refine aH aNR ?_
  unfold gT at h0;unfold iB at h1;unfold iZ at h2;unfold kH at h3;unfold lF at h4;unfold mD at h5;unfold oL at h6;unfold pH at h7;unfold rL at h8;unfold uO at h9;unfold aBy;simp only[bI];refine⟨rfl,?_⟩;simp only[aJ];refine⟨?_,trivial⟩;simp only[nn,List.cons_append,List.nil_append,Bool.or_eq_true,aR,ne_eq]at *;generalize G 82 [l0,0,0]=c0 at *;generalize G 82 [l0,0,1]=c1 at *;generalize G 82 [l0,1,0]=c2 at *;generalize G 82 [l0,1,1]=c3 at *;generalize G 82 [l0,2,0]=c4 at *;generalize G 82 [l0,2,1]=c5 at *;generalize G 82 [l0,3,0]=c6 at *;generalize G 82 [l0,3,1]=c7 at *;(try simp only[Bool.and_eq_true,Bool.or_eq_true,decide_eq_true_eq]at *);rw[Bool.eq_iff_iff];simp only[Bool.and_eq_true,Bool.or_eq_true,decide_eq_true_eq];omega
 refine aF tF (fun h10=>?_) (fun h10=>?_)
 ·skip
  refine aH aO4 ?_
  unfold gT at h0;unfold iB at h1;unfold iZ at h2;unfold kH at h3;unfold lF at h4;unfold mD at h5;unfold oL at h6;unfold pH at h7;unfold rL at h8;unfold uO at h9;unfold tF at h10;unfold aBy;simp only[bI];refine⟨rfl,?_⟩;simp only[aJ];refine⟨?_,trivial⟩;simp only[nn,List.cons_append,List.nil_append,Bool.or_eq_true,aR,ne_eq]at *;generalize G 82 [l0,0,0]=c0 at *;generalize G 82 [l0,0,1]=c1 at *;generalize G 82 [l0,1,0]=c2 at *;generalize G 82 [l0,1,1]=c3 at *;generalize G 82 [l0,2,0]=c4 at *;generalize G 82 [l0,2,1]=c5 at *;generalize G 82 [l0,3,0]=c6 at *;generalize G 82 [l0,3,1]=c7 at *;(try simp only[Bool.and_eq_true,Bool.or_eq_true,decide_eq_true_eq]at *);rw[Bool.eq_iff_iff];simp only[Bool.and_eq_true,Bool.or_eq_true,decide_eq_true_eq];omega
 refine aH aLm ?_
 unfold gT at h0;unfold iB at h1;unfold iZ at h2;unfold kH at h3;unfold lF at h4;unfold mD at h5;unfold oL at h6;unfold pH at h7;unfold rL at h8;unfold uO at h9;unfold tF at h10;unfold qB;simp only[bI];refine⟨rfl,?_⟩;simp only[aJ];refine⟨?_,trivial⟩;simp only[nn,List.cons_append,List.nil_append,Bool.or_eq_true,aR,ne_eq]at *;generalize G 82 [l0,0,0]=c0 at *;generalize G 82 [l0,0,1]=c1 at *;generalize G 82 [l0,1,0]=c2 at *;generalize G 82 [l0,1,1]=c3 at *;generalize G 82 [l0,2,0]=c4 at *;generalize G 82 [l0,2,1]=c5 at *;generalize G 82 [l0,3,0]=c6 at *;generalize G 82 [l0,3,1]=c7 at *;(try simp only[Bool.and_eq_true,Bool.or_eq_true,decide_eq_true_eq]at *);rw[Bool.eq_iff_iff];simp only[Bool.and_eq_true,Bool.or_eq_true,decide_eq_true_eq];omega
def aC6:Ctx→List SV→aM→Res (SV × aM):=eA GB [(1,4)] 1 (.lit true) aSu
theorem aTK {X:Ctx} {ρ:Nat→Int} (hX:X.Ok ρ) (hG:X.G=G):eT Try.prog X ρ GB 91 aC6:=by
 obtain⟨XG,XI,XV,XF⟩:=X
 simp only at hG
 subst hG
 refine cU hX ?_
 intro xs ls hw hl hp
 obtain⟨x0,y0,e0,b0,h0⟩:=aY hw
 have e1:=kG h0
 subst e1 e0
 obtain⟨l0,z0,q0,hl0⟩:=bL hl
 have q1:=List.length_eq_zero_iff.1 hl0
 subst q1 q0
 exact aR7 x0 l0 b0
set_option maxHeartbeats 8000000 in
set_option maxRecDepth 100000 in
theorem aR4 (x0 l0:Int) (b0:1≤x0∧x0≤4):fX Try.prog G GB 91 aSW (dM ([x0]++[l0])):=by
 refine dB (lp:=eG) (run:=aI1 Try.prog) (fun _=>rfl) fits (cM (xs:=[x0]) (ls:=[l0]) (by exact⟨b0,trivial⟩)) iJ (fun X hX hG=>eL hX hG) (fun X hX hG fn c hf hc=>dD) rfl ?_
 refine aF lB (fun h0=>?_) (fun h0=>?_)
 ·skip
  refine aH aSI ?_
  unfold lB at h0;unfold aJZ;simp only[bI];refine⟨rfl,?_⟩;simp only[aJ];refine⟨?_,trivial⟩;simp only[nn,List.cons_append,List.nil_append,Bool.or_eq_true,aR,ne_eq]at *;generalize G 82 [l0,0,0]=c0 at *;generalize G 82 [l0,0,1]=c1 at *;generalize G 82 [l0,1,0]=c2 at *;generalize G 82 [l0,1,1]=c3 at *;generalize G 82 [l0,2,0]=c4 at *;generalize G 82 [l0,2,1]=c5 at *;generalize G 82 [l0,3,0]=c6 at *;generalize G 82 [l0,3,1]=c7 at *;(try simp only[Bool.and_eq_true,Bool.or_eq_true,decide_eq_true_eq]at *);rw[Bool.eq_iff_iff];simp only[Bool.and_eq_true,Bool.or_eq_true,decide_eq_true_eq];omega
 refine aF mC (fun h1=>?_) (fun h1=>?_)
 rotate_left
 ·skip
  refine aH aPD ?_
  unfold lB at h0;unfold mC at h1;unfold pE;simp only[bI];refine⟨rfl,?_⟩;simp only[aJ];refine⟨?_,trivial⟩;simp only[nn,List.cons_append,List.nil_append,Bool.or_eq_true,aR,ne_eq]at *;generalize G 82 [l0,0,0]=c0 at *;generalize G 82 [l0,0,1]=c1 at *;generalize G 82 [l0,1,0]=c2 at *;generalize G 82 [l0,1,1]=c3 at *;generalize G 82 [l0,2,0]=c4 at *;generalize G 82 [l0,2,1]=c5 at *;generalize G 82 [l0,3,0]=c6 at *;generalize G 82 [l0,3,1]=c7 at *;(try simp only[Bool.and_eq_true,Bool.or_eq_true,decide_eq_true_eq]at *);rw[Bool.eq_iff_iff];simp only[Bool.and_eq_true,Bool.or_eq_true,decide_eq_true_eq];omega
 refine aF oP (fun h2=>?_) (fun h2=>?_)
 ·skip
  refine aH aTp ?_
  unfold lB at h0;unfold mC at h1;unfold oP at h2;unfold aJC;simp only[bI];refine⟨rfl,?_⟩;simp only[aJ];refine⟨?_,trivial⟩;simp only[nn,List.cons_append,List.nil_append,Bool.or_eq_true,aR,ne_eq]at *;generalize G 82 [l0,0,0]=c0 at *;generalize G 82 [l0,0,1]=c1 at *;generalize G 82 [l0,1,0]=c2 at *;generalize G 82 [l0,1,1]=c3 at *;generalize G 82 [l0,2,0]=c4 at *;generalize G 82 [l0,2,1]=c5 at *;generalize G 82 [l0,3,0]=c6 at *;generalize G 82 [l0,3,1]=c7 at *;(try simp only[Bool.and_eq_true,Bool.or_eq_true,decide_eq_true_eq]at *);rw[Bool.eq_iff_iff];simp only[Bool.and_eq_true,Bool.or_eq_true,decide_eq_true_eq];omega
 refine aF oX (fun h3=>?_) (fun h3=>?_)
 rotate_left
 ·skip
  refine aH aOn ?_
  unfold lB at h0;unfold mC at h1;unfold oP at h2;unfold oX at h3;unfold pE;simp only[bI];refine⟨rfl,?_⟩;simp only[aJ];refine⟨?_,trivial⟩;simp only[nn,List.cons_append,List.nil_append,Bool.or_eq_true,aR,ne_eq]at *;generalize G 82 [l0,0,0]=c0 at *;generalize G 82 [l0,0,1]=c1 at *;generalize G 82 [l0,1,0]=c2 at *;generalize G 82 [l0,1,1]=c3 at *;generalize G 82 [l0,2,0]=c4 at *;generalize G 82 [l0,2,1]=c5 at *;generalize G 82 [l0,3,0]=c6 at *;generalize G 82 [l0,3,1]=c7 at *;(try simp only[Bool.and_eq_true,Bool.or_eq_true,decide_eq_true_eq]at *);rw[Bool.eq_iff_iff];simp only[Bool.and_eq_true,Bool.or_eq_true,decide_eq_true_eq];omega
 refine aF sE (fun h4=>?_) (fun h4=>?_)
 ·skip
  refine aH aRk ?_
  unfold lB at h0;unfold mC at h1;unfold oP at h2;unfold oX at h3;unfold sE at h4;unfold aLa;simp only[bI];refine⟨rfl,?_⟩;simp only[aJ];refine⟨?_,trivial⟩;simp only[nn,List.cons_append,List.nil_append,Bool.or_eq_true,aR,ne_eq]at *;generalize G 82 [l0,0,0]=c0 at *;generalize G 82 [l0,0,1]=c1 at *;generalize G 82 [l0,1,0]=c2 at *;generalize G 82 [l0,1,1]=c3 at *;generalize G 82 [l0,2,0]=c4 at *;generalize G 82 [l0,2,1]=c5 at *;generalize G 82 [l0,3,0]=c6 at *;generalize G 82 [l0,3,1]=c7 at *;(try simp only[Bool.and_eq_true,Bool.or_eq_true,decide_eq_true_eq]at *);rw[Bool.eq_iff_iff];simp only[Bool.and_eq_true,Bool.or_eq_true,decide_eq_true_eq];omega
 refine aF vU (fun h5=>?_) (fun h5=>?_)
 rotate_left
 ·skip
  refine aH aPL ?_
  unfold lB at h0;unfold mC at h1;unfold oP at h2;unfold oX at h3;unfold sE at h4;unfold vU at h5;unfold pE;simp only[bI];refine⟨rfl,?_⟩;simp only[aJ];refine⟨?_,trivial⟩;simp only[nn,List.cons_append,List.nil_append,Bool.or_eq_true,aR,ne_eq]at *;generalize G 82 [l0,0,0]=c0 at *;generalize G 82 [l0,0,1]=c1 at *;generalize G 82 [l0,1,0]=c2 at *;generalize G 82 [l0,1,1]=c3 at *;generalize G 82 [l0,2,0]=c4 at *;generalize G 82 [l0,2,1]=c5 at *;generalize G 82 [l0,3,0]=c6 at *;generalize G 82 [l0,3,1]=c7 at *;(try simp only[Bool.and_eq_true,Bool.or_eq_true,decide_eq_true_eq]at *);rw[Bool.eq_iff_iff];simp only[Bool.and_eq_true,Bool.or_eq_true,decide_eq_true_eq];omega
 refine aF zG (fun h6=>?_) (fun h6=>?_)
 ·skip
  refine aH aMV ?_
  unfold lB at h0;unfold mC at h1;unfold oP at h2;unfold oX at h3;unfold sE at h4;unfold vU at h5;unfold zG at h6;unfold aJr;simp only[bI];refine⟨rfl,?_⟩;simp only[aJ];refine⟨?_,trivial⟩;simp only[nn,List.cons_append,List.nil_append,Bool.or_eq_true,aR,ne_eq]at *;generalize G 82 [l0,0,0]=c0 at *;generalize G 82 [l0,0,1]=c1 at *;generalize G 82 [l0,1,0]=c2 at *;generalize G 82 [l0,1,1]=c3 at *;generalize G 82 [l0,2,0]=c4 at *;generalize G 82 [l0,2,1]=c5 at *;generalize G 82 [l0,3,0]=c6 at *;generalize G 82 [l0,3,1]=c7 at *;(try simp only[Bool.and_eq_true,Bool.or_eq_true,decide_eq_true_eq]at *);rw[Bool.eq_iff_iff];simp only[Bool.and_eq_true,Bool.or_eq_true,decide_eq_true_eq];omega
 refine aH aPj ?_
 unfold lB at h0;unfold mC at h1;unfold oP at h2;unfold oX at h3;unfold sE at h4;unfold vU at h5;unfold zG at h6;unfold pE;simp only[bI];refine⟨rfl,?_⟩;simp only[aJ];refine⟨?_,trivial⟩;simp only[nn,List.cons_append,List.nil_append,Bool.or_eq_true,aR,ne_eq]at *;generalize G 82 [l0,0,0]=c0 at *;generalize G 82 [l0,0,1]=c1 at *;generalize G 82 [l0,1,0]=c2 at *;generalize G 82 [l0,1,1]=c3 at *;generalize G 82 [l0,2,0]=c4 at *;generalize G 82 [l0,2,1]=c5 at *;generalize G 82 [l0,3,0]=c6 at *;generalize G 82 [l0,3,1]=c7 at *;(try simp only[Bool.and_eq_true,Bool.or_eq_true,decide_eq_true_eq]at *);rw[Bool.eq_iff_iff];simp only[Bool.and_eq_true,Bool.or_eq_true,decide_eq_true_eq];omega
def aCn:Ctx→List SV→aM→Res (SV × aM):=eA GB [(1,4)] 1 (.lit true) aSW
theorem aTP {X:Ctx} {ρ:Nat→Int} (hX:X.Ok ρ) (hG:X.G=G):eT Try.prog X ρ GB 91 aCn:=by
 obtain⟨XG,XI,XV,XF⟩:=X
 simp only at hG
 subst hG
 refine cU hX ?_
 intro xs ls hw hl hp
 obtain⟨x0,y0,e0,b0,h0⟩:=aY hw
 have e1:=kG h0
 subst e1 e0
 obtain⟨l0,z0,q0,hl0⟩:=bL hl
 have q1:=List.length_eq_zero_iff.1 hl0
 subst q1 q0
 exact aR4 x0 l0 b0
set_option maxHeartbeats 8000000 in
set_option maxRecDepth 100000 in
theorem aRo (x0 l0:Int) (b0:0≤x0∧x0≤8):fX Try.prog G GB 70 aSc (dM ([x0]++[l0])):=by
 refine dB (lp:=eG) (run:=aHX Try.prog) (fun _=>rfl) fits (cM (xs:=[x0]) (ls:=[l0]) (by exact⟨b0,trivial⟩)) iJ (fun X hX hG=>eL hX hG) (fun X hX hG fn c hf hc=>dD) rfl ?_
 refine aF cX (fun h0=>?_) (fun h0=>?_)
 rotate_left
 ·skip
  refine aH aQo ?_
  unfold cX at h0;unfold fE;simp only[bI];refine⟨rfl,?_⟩;simp only[aJ];refine⟨?_,trivial⟩;simp only[nn,List.cons_append,List.nil_append,Bool.or_eq_true,aR,ne_eq]at *;generalize G 83 [l0,0,0]=c0 at *;generalize G 83 [l0,1,0]=c1 at *;generalize G 83 [l0,2,0]=c2 at *;generalize G 83 [l0,3,0]=c3 at *;generalize G 83 [l0,4,0]=c4 at *;generalize G 83 [l0,5,0]=c5 at *;generalize G 83 [l0,6,0]=c6 at *;generalize G 83 [l0,7,0]=c7 at *;(try simp only[Bool.and_eq_true,Bool.or_eq_true,decide_eq_true_eq]at *);rw[Bool.eq_iff_iff];simp only[Bool.and_eq_true,Bool.or_eq_true,decide_eq_true_eq];omega
 refine aF dE (fun h1=>?_) (fun h1=>?_)
 ·skip
  refine aH aSY ?_
  unfold cX at h0;unfold dE at h1;unfold aBg;simp only[bI];refine⟨rfl,?_⟩;simp only[aJ];refine⟨?_,trivial⟩;simp only[nn,List.cons_append,List.nil_append,Bool.or_eq_true,aR,ne_eq]at *;generalize G 83 [l0,0,0]=c0 at *;generalize G 83 [l0,1,0]=c1 at *;generalize G 83 [l0,2,0]=c2 at *;generalize G 83 [l0,3,0]=c3 at *;generalize G 83 [l0,4,0]=c4 at *;generalize G 83 [l0,5,0]=c5 at *;generalize G 83 [l0,6,0]=c6 at *;generalize G 83 [l0,7,0]=c7 at *;(try simp only[Bool.and_eq_true,Bool.or_eq_true,decide_eq_true_eq]at *);rw[Bool.eq_iff_iff];simp only[Bool.and_eq_true,Bool.or_eq_true,decide_eq_true_eq];omega
 refine aF dG (fun h2=>?_) (fun h2=>?_)
 ·skip
  refine aH aRL ?_
  unfold cX at h0;unfold dE at h1;unfold dG at h2;unfold aBg;simp only[bI];refine⟨rfl,?_⟩;simp only[aJ];refine⟨?_,trivial⟩;simp only[nn,List.cons_append,List.nil_append,Bool.or_eq_true,aR,ne_eq]at *;generalize G 83 [l0,0,0]=c0 at *;generalize G 83 [l0,1,0]=c1 at *;generalize G 83 [l0,2,0]=c2 at *;generalize G 83 [l0,3,0]=c3 at *;generalize G 83 [l0,4,0]=c4 at *;generalize G 83 [l0,5,0]=c5 at *;generalize G 83 [l0,6,0]=c6 at *;generalize G 83 [l0,7,0]=c7 at *;(try simp only[Bool.and_eq_true,Bool.or_eq_true,decide_eq_true_eq]at *);rw[Bool.eq_iff_iff];simp only[Bool.and_eq_true,Bool.or_eq_true,decide_eq_true_eq];omega
 refine aF dJ (fun h3=>?_) (fun h3=>?_)
 rotate_left
 ·skip
  refine aH aPP ?_
  unfold cX at h0;unfold dE at h1;unfold dG at h2;unfold dJ at h3;unfold fE;simp only[bI];refine⟨rfl,?_⟩;simp only[aJ];refine⟨?_,trivial⟩;simp only[nn,List.cons_append,List.nil_append,Bool.or_eq_true,aR,ne_eq]at *;generalize G 83 [l0,0,0]=c0 at *;generalize G 83 [l0,1,0]=c1 at *;generalize G 83 [l0,2,0]=c2 at *;generalize G 83 [l0,3,0]=c3 at *;generalize G 83 [l0,4,0]=c4 at *;generalize G 83 [l0,5,0]=c5 at *;generalize G 83 [l0,6,0]=c6 at *;generalize G 83 [l0,7,0]=c7 at *;(try simp only[Bool.and_eq_true,Bool.or_eq_true,decide_eq_true_eq]at *);rw[Bool.eq_iff_iff];simp only[Bool.and_eq_true,Bool.or_eq_true,decide_eq_true_eq];omega
 refine aF dN (fun h4=>?_) (fun h4=>?_)
 ·skip
  refine aH aSt ?_
  unfold cX at h0;unfold dE at h1;unfold dG at h2;unfold dJ at h3;unfold dN at h4;unfold aBw;simp only[bI];refine⟨rfl,?_⟩;simp only[aJ];refine⟨?_,trivial⟩;simp only[nn,List.cons_append,List.nil_append,Bool.or_eq_true,aR,ne_eq]at *;generalize G 83 [l0,0,0]=c0 at *;generalize G 83 [l0,1,0]=c1 at *;generalize G 83 [l0,2,0]=c2 at *;generalize G 83 [l0,3,0]=c3 at *;generalize G 83 [l0,4,0]=c4 at *;generalize G 83 [l0,5,0]=c5 at *;generalize G 83 [l0,6,0]=c6 at *;generalize G 83 [l0,7,0]=c7 at *;(try simp only[Bool.and_eq_true,Bool.or_eq_true,decide_eq_true_eq]at *);rw[Bool.eq_iff_iff];simp only[Bool.and_eq_true,Bool.or_eq_true,decide_eq_true_eq];omega
 refine aF dR (fun h5=>?_) (fun h5=>?_)
 ·skip
  refine aH aTj ?_
  unfold cX at h0;unfold dE at h1;unfold dG at h2;unfold dJ at h3;unfold dN at h4;unfold dR at h5;unfold aBw;simp only[bI];refine⟨rfl,?_⟩;simp only[aJ];refine⟨?_,trivial⟩;simp only[nn,List.cons_append,List.nil_append,Bool.or_eq_true,aR,ne_eq]at *;generalize G 83 [l0,0,0]=c0 at *;generalize G 83 [l0,1,0]=c1 at *;generalize G 83 [l0,2,0]=c2 at *;generalize G 83 [l0,3,0]=c3 at *;generalize G 83 [l0,4,0]=c4 at *;generalize G 83 [l0,5,0]=c5 at *;generalize G 83 [l0,6,0]=c6 at *;generalize G 83 [l0,7,0]=c7 at *;(try simp only[Bool.and_eq_true,Bool.or_eq_true,decide_eq_true_eq]at *);rw[Bool.eq_iff_iff];simp only[Bool.and_eq_true,Bool.or_eq_true,decide_eq_true_eq];omega
 refine aF dW (fun h6=>?_) (fun h6=>?_)
 rotate_left
 ·skip
  refine aH aMb ?_
  unfold cX at h0;unfold dE at h1;unfold dG at h2;unfold dJ at h3;unfold dN at h4;unfold dR at h5;unfold dW at h6;unfold fE;simp only[bI];refine⟨rfl,?_⟩;simp only[aJ];refine⟨?_,trivial⟩;simp only[nn,List.cons_append,List.nil_append,Bool.or_eq_true,aR,ne_eq]at *;generalize G 83 [l0,0,0]=c0 at *;generalize G 83 [l0,1,0]=c1 at *;generalize G 83 [l0,2,0]=c2 at *;generalize G 83 [l0,3,0]=c3 at *;generalize G 83 [l0,4,0]=c4 at *;generalize G 83 [l0,5,0]=c5 at *;generalize G 83 [l0,6,0]=c6 at *;generalize G 83 [l0,7,0]=c7 at *;(try simp only[Bool.and_eq_true,Bool.or_eq_true,decide_eq_true_eq]at *);rw[Bool.eq_iff_iff];simp only[Bool.and_eq_true,Bool.or_eq_true,decide_eq_true_eq];omega
 refine aF eE (fun h7=>?_) (fun h7=>?_)
 ·skip
  refine aH aOv ?_
  unfold cX at h0;unfold dE at h1;unfold dG at h2;unfold dJ at h3;unfold dN at h4;unfold dR at h5;unfold dW at h6;unfold eE at h7;unfold aA8;simp only[bI];refine⟨rfl,?_⟩;simp only[aJ];refine⟨?_,trivial⟩;simp only[nn,List.cons_append,List.nil_append,Bool.or_eq_true,aR,ne_eq]at *;generalize G 83 [l0,0,0]=c0 at *;generalize G 83 [l0,1,0]=c1 at *;generalize G 83 [l0,2,0]=c2 at *;generalize G 83 [l0,3,0]=c3 at *;generalize G 83 [l0,4,0]=c4 at *;generalize G 83 [l0,5,0]=c5 at *;generalize G 83 [l0,6,0]=c6 at *;generalize G 83 [l0,7,0]=c7 at *;(try simp only[Bool.and_eq_true,Bool.or_eq_true,decide_eq_true_eq]at *);rw[Bool.eq_iff_iff];simp only[Bool.and_eq_true,Bool.or_eq_true,decide_eq_true_eq];omega
 refine aF eJ (fun h8=>?_) (fun h8=>?_)
 ·skip
  refine aH aM1 ?_
  unfold cX at h0;unfold dE at h1;unfold dG at h2;unfold dJ at h3;unfold dN at h4;unfold dR at h5;unfold dW at h6;unfold eE at h7;unfold eJ at h8;unfold aA8;simp only[bI];refine⟨rfl,?_⟩;simp only[aJ];refine⟨?_,trivial⟩;simp only[nn,List.cons_append,List.nil_append,Bool.or_eq_true,aR,ne_eq]at *;generalize G 83 [l0,0,0]=c0 at *;generalize G 83 [l0,1,0]=c1 at *;generalize G 83 [l0,2,0]=c2 at *;generalize G 83 [l0,3,0]=c3 at *;generalize G 83 [l0,4,0]=c4 at *;generalize G 83 [l0,5,0]=c5 at *;generalize G 83 [l0,6,0]=c6 at *;generalize G 83 [l0,7,0]=c7 at *;(try simp only[Bool.and_eq_true,Bool.or_eq_true,decide_eq_true_eq]at *);rw[Bool.eq_iff_iff];simp only[Bool.and_eq_true,Bool.or_eq_true,decide_eq_true_eq];omega
 refine aF eR (fun h9=>?_) (fun h9=>?_)
 rotate_left
 ·skip
  refine aH aQp ?_
  unfold cX at h0;unfold dE at h1;unfold dG at h2;unfold dJ at h3;unfold dN at h4;unfold dR at h5;unfold dW at h6;unfold eE at h7;unfold eJ at h8;unfold eR at h9;unfold fE;simp only[bI];refine⟨rfl,?_⟩;simp only[aJ];refine⟨?_,trivial⟩;simp only[nn,List.cons_append,List.nil_append,Bool.or_eq_true,aR,ne_eq]at *;generalize G 83 [l0,0,0]=c0 at *;generalize G 83 [l0,1,0]=c1 at *;generalize G 83 [l0,2,0]=c2 at *;generalize G 83 [l0,3,0]=c3 at *;generalize G 83 [l0,4,0]=c4 at *;generalize G 83 [l0,5,0]=c5 at *;generalize G 83 [l0,6,0]=c6 at *;generalize G 83 [l0,7,0]=c7 at *;(try simp only[Bool.and_eq_true,Bool.or_eq_true,decide_eq_true_eq]at *);rw[Bool.eq_iff_iff];simp only[Bool.and_eq_true,Bool.or_eq_true,decide_eq_true_eq];omega
 refine aF dV (fun h10=>?_) (fun h10=>?_)
 ·skip
  refine aH aMG ?_
  unfold cX at h0;unfold dE at h1;unfold dG at h2;unfold dJ at h3;unfold dN at h4;unfold dR at h5;unfold dW at h6;unfold eE at h7;unfold eJ at h8;unfold eR at h9;unfold dV at h10;unfold aB5;simp only[bI];refine⟨rfl,?_⟩;simp only[aJ];refine⟨?_,trivial⟩;simp only[nn,List.cons_append,List.nil_append,Bool.or_eq_true,aR,ne_eq]at *;generalize G 83 [l0,0,0]=c0 at *;generalize G 83 [l0,1,0]=c1 at *;generalize G 83 [l0,2,0]=c2 at *;generalize G 83 [l0,3,0]=c3 at *;generalize G 83 [l0,4,0]=c4 at *;generalize G 83 [l0,5,0]=c5 at *;generalize G 83 [l0,6,0]=c6 at *;generalize G 83 [l0,7,0]=c7 at *;(try simp only[Bool.and_eq_true,Bool.or_eq_true,decide_eq_true_eq]at *);rw[Bool.eq_iff_iff];simp only[Bool.and_eq_true,Bool.or_eq_true,decide_eq_true_eq];omega
 refine aF eD (fun h11=>?_) (fun h11=>?_)
 ·skip
  refine aH aPf ?_
  unfold cX at h0;unfold dE at h1;unfold dG at h2;unfold dJ at h3;unfold dN at h4;unfold dR at h5;unfold dW at h6;unfold eE at h7;unfold eJ at h8;unfold eR at h9;unfold dV at h10;unfold eD at h11;unfold aB5;simp only[bI];refine⟨rfl,?_⟩;simp only[aJ];refine⟨?_,trivial⟩;simp only[nn,List.cons_append,List.nil_append,Bool.or_eq_true,aR,ne_eq]at *;generalize G 83 [l0,0,0]=c0 at *;generalize G 83 [l0,1,0]=c1 at *;generalize G 83 [l0,2,0]=c2 at *;generalize G 83 [l0,3,0]=c3 at *;generalize G 83 [l0,4,0]=c4 at *;generalize G 83 [l0,5,0]=c5 at *;generalize G 83 [l0,6,0]=c6 at *;generalize G 83 [l0,7,0]=c7 at *;(try simp only[Bool.and_eq_true,Bool.or_eq_true,decide_eq_true_eq]at *);rw[Bool.eq_iff_iff];simp only[Bool.and_eq_true,Bool.or_eq_true,decide_eq_true_eq];omega
 refine aF eI (fun h12=>?_) (fun h12=>?_)
 rotate_left
 ·skip
  refine aH aM4 ?_
  unfold cX at h0;unfold dE at h1;unfold dG at h2;unfold dJ at h3;unfold dN at h4;unfold dR at h5;unfold dW at h6;unfold eE at h7;unfold eJ at h8;unfold eR at h9;unfold dV at h10;unfold eD at h11;unfold eI at h12;unfold fE;simp only[bI];refine⟨rfl,?_⟩;simp only[aJ];refine⟨?_,trivial⟩;simp only[nn,List.cons_append,List.nil_append,Bool.or_eq_true,aR,ne_eq]at *;generalize G 83 [l0,0,0]=c0 at *;generalize G 83 [l0,1,0]=c1 at *;generalize G 83 [l0,2,0]=c2 at *;generalize G 83 [l0,3,0]=c3 at *;generalize G 83 [l0,4,0]=c4 at *;generalize G 83 [l0,5,0]=c5 at *;generalize G 83 [l0,6,0]=c6 at *;generalize G 83 [l0,7,0]=c7 at *;(try simp only[Bool.and_eq_true,Bool.or_eq_true,decide_eq_true_eq]at *);rw[Bool.eq_iff_iff];simp only[Bool.and_eq_true,Bool.or_eq_true,decide_eq_true_eq];omega
 refine aF eP (fun h13=>?_) (fun h13=>?_)
 ·skip
  refine aH aQd ?_
  unfold cX at h0;unfold dE at h1;unfold dG at h2;unfold dJ at h3;unfold dN at h4;unfold dR at h5;unfold dW at h6;unfold eE at h7;unfold eJ at h8;unfold eR at h9;unfold dV at h10;unfold eD at h11;unfold eI at h12;unfold eP at h13;unfold aBV;simp only[bI];refine⟨rfl,?_⟩;simp only[aJ];refine⟨?_,trivial⟩;simp only[nn,List.cons_append,List.nil_append,Bool.or_eq_true,aR,ne_eq]at *;generalize G 83 [l0,0,0]=c0 at *;generalize G 83 [l0,1,0]=c1 at *;generalize G 83 [l0,2,0]=c2 at *;generalize G 83 [l0,3,0]=c3 at *;generalize G 83 [l0,4,0]=c4 at *;generalize G 83 [l0,5,0]=c5 at *;generalize G 83 [l0,6,0]=c6 at *;generalize G 83 [l0,7,0]=c7 at *;(try simp only[Bool.and_eq_true,Bool.or_eq_true,decide_eq_true_eq]at *);rw[Bool.eq_iff_iff];simp only[Bool.and_eq_true,Bool.or_eq_true,decide_eq_true_eq];omega
 refine aF fJ (fun h14=>?_) (fun h14=>?_)
 ·skip
  refine aH aQe ?_
  unfold cX at h0;unfold dE at h1;unfold dG at h2;unfold dJ at h3;unfold dN at h4;unfold dR at h5;unfold dW at h6;unfold eE at h7;unfold eJ at h8;unfold eR at h9;unfold dV at h10;unfold eD at h11;unfold eI at h12;unfold eP at h13;unfold fJ at h14;unfold aBV;simp only[bI];refine⟨rfl,?_⟩;simp only[aJ];refine⟨?_,trivial⟩;simp only[nn,List.cons_append,List.nil_append,Bool.or_eq_true,aR,ne_eq]at *;generalize G 83 [l0,0,0]=c0 at *;generalize G 83 [l0,1,0]=c1 at *;generalize G 83 [l0,2,0]=c2 at *;generalize G 83 [l0,3,0]=c3 at *;generalize G 83 [l0,4,0]=c4 at *;generalize G 83 [l0,5,0]=c5 at *;generalize G 83 [l0,6,0]=c6 at *;generalize G 83 [l0,7,0]=c7 at *;(try simp only[Bool.and_eq_true,Bool.or_eq_true,decide_eq_true_eq]at *);rw[Bool.eq_iff_iff];simp only[Bool.and_eq_true,Bool.or_eq_true,decide_eq_true_eq];omega
 refine aF fS (fun h15=>?_) (fun h15=>?_)
 rotate_left
 ·skip
  refine aH aMr ?_
  unfold cX at h0;unfold dE at h1;unfold dG at h2;unfold dJ at h3;unfold dN at h4;unfold dR at h5;unfold dW at h6;unfold eE at h7;unfold eJ at h8;unfold eR at h9;unfold dV at h10;unfold eD at h11;unfold eI at h12;unfold eP at h13;unfold fJ at h14;unfold fS at h15;unfold fE;simp only[bI];refine⟨rfl,?_⟩;simp only[aJ];refine⟨?_,trivial⟩;simp only[nn,List.cons_append,List.nil_append,Bool.or_eq_true,aR,ne_eq]at *;generalize G 83 [l0,0,0]=c0 at *;generalize G 83 [l0,1,0]=c1 at *;generalize G 83 [l0,2,0]=c2 at *;generalize G 83 [l0,3,0]=c3 at *;generalize G 83 [l0,4,0]=c4 at *;generalize G 83 [l0,5,0]=c5 at *;generalize G 83 [l0,6,0]=c6 at *;generalize G 83 [l0,7,0]=c7 at *;(try simp only[Bool.and_eq_true,Bool.or_eq_true,decide_eq_true_eq]at *);rw[Bool.eq_iff_iff];simp only[Bool.and_eq_true,Bool.or_eq_true,decide_eq_true_eq];omega
 refine aF gC (fun h16=>?_) (fun h16=>?_)
 ·skip
  refine aH aP3 ?_
  unfold cX at h0;unfold dE at h1;unfold dG at h2;unfold dJ at h3;unfold dN at h4;unfold dR at h5;unfold dW at h6;unfold eE at h7;unfold eJ at h8;unfold eR at h9;unfold dV at h10;unfold eD at h11;unfold eI at h12;unfold eP at h13;unfold fJ at h14;unfold fS at h15;unfold gC at h16;unfold aBv;simp only[bI];refine⟨rfl,?_⟩;simp only[aJ];refine⟨?_,trivial⟩;simp only[nn,List.cons_append,List.nil_append,Bool.or_eq_true,aR,ne_eq]at *;generalize G 83 [l0,0,0]=c0 at *;generalize G 83 [l0,1,0]=c1 at *;generalize G 83 [l0,2,0]=c2 at *;generalize G 83 [l0,3,0]=c3 at *;generalize G 83 [l0,4,0]=c4 at *;generalize G 83 [l0,5,0]=c5 at *;generalize G 83 [l0,6,0]=c6 at *;generalize G 83 [l0,7,0]=c7 at *;(try simp only[Bool.and_eq_true,Bool.or_eq_true,decide_eq_true_eq]at *);rw[Bool.eq_iff_iff];simp only[Bool.and_eq_true,Bool.or_eq_true,decide_eq_true_eq];omega
 refine aF iM (fun h17=>?_) (fun h17=>?_)
 ·skip
  refine aH aPG ?_
  unfold cX at h0;unfold dE at h1;unfold dG at h2;unfold dJ at h3;unfold dN at h4;unfold dR at h5;unfold dW at h6;unfold eE at h7;unfold eJ at h8;unfold eR at h9;unfold dV at h10;unfold eD at h11;unfold eI at h12;unfold eP at h13;unfold fJ at h14;unfold fS at h15;unfold gC at h16;unfold iM at h17;unfold aBv;simp only[bI];refine⟨rfl,?_⟩;simp only[aJ];refine⟨?_,trivial⟩;simp only[nn,List.cons_append,List.nil_append,Bool.or_eq_true,aR,ne_eq]at *;generalize G 83 [l0,0,0]=c0 at *;generalize G 83 [l0,1,0]=c1 at *;generalize G 83 [l0,2,0]=c2 at *;generalize G 83 [l0,3,0]=c3 at *;generalize G 83 [l0,4,0]=c4 at *;generalize G 83 [l0,5,0]=c5 at *;generalize G 83 [l0,6,0]=c6 at *;generalize G 83 [l0,7,0]=c7 at *;(try simp only[Bool.and_eq_true,Bool.or_eq_true,decide_eq_true_eq]at *);rw[Bool.eq_iff_iff];simp only[Bool.and_eq_true,Bool.or_eq_true,decide_eq_true_eq];omega
 refine aF jH (fun h18=>?_) (fun h18=>?_)
 rotate_left
 ·skip
  refine aH aNg ?_
  unfold cX at h0;unfold dE at h1;unfold dG at h2;unfold dJ at h3;unfold dN at h4;unfold dR at h5;unfold dW at h6;unfold eE at h7;unfold eJ at h8;unfold eR at h9;unfold dV at h10;unfold eD at h11;unfold eI at h12;unfold eP at h13;unfold fJ at h14;unfold fS at h15;unfold gC at h16;unfold iM at h17;unfold jH at h18;unfold fE;simp only[bI];refine⟨rfl,?_⟩;simp only[aJ];refine⟨?_,trivial⟩;simp only[nn,List.cons_append,List.nil_append,Bool.or_eq_true,aR,ne_eq]at *;generalize G 83 [l0,0,0]=c0 at *;generalize G 83 [l0,1,0]=c1 at *;generalize G 83 [l0,2,0]=c2 at *;generalize G 83 [l0,3,0]=c3 at *;generalize G 83 [l0,4,0]=c4 at *;generalize G 83 [l0,5,0]=c5 at *;generalize G 83 [l0,6,0]=c6 at *;generalize G 83 [l0,7,0]=c7 at *;(try simp only[Bool.and_eq_true,Bool.or_eq_true,decide_eq_true_eq]at *);rw[Bool.eq_iff_iff];simp only[Bool.and_eq_true,Bool.or_eq_true,decide_eq_true_eq];omega
 refine aF kN (fun h19=>?_) (fun h19=>?_)
 ·skip
  refine aH aPp ?_
  unfold cX at h0;unfold dE at h1;unfold dG at h2;unfold dJ at h3;unfold dN at h4;unfold dR at h5;unfold dW at h6;unfold eE at h7;unfold eJ at h8;unfold eR at h9;unfold dV at h10;unfold eD at h11;unfold eI at h12;unfold eP at h13;unfold fJ at h14;unfold fS at h15;unfold gC at h16;unfold iM at h17;unfold jH at h18;unfold kN at h19;unfold aBa;simp only[bI];refine⟨rfl,?_⟩;simp only[aJ];refine⟨?_,trivial⟩;simp only[nn,List.cons_append,List.nil_append,Bool.or_eq_true,aR,ne_eq]at *;generalize G 83 [l0,0,0]=c0 at *;generalize G 83 [l0,1,0]=c1 at *;generalize G 83 [l0,2,0]=c2 at *;generalize G 83 [l0,3,0]=c3 at *;generalize G 83 [l0,4,0]=c4 at *;generalize G 83 [l0,5,0]=c5 at *;generalize G 83 [l0,6,0]=c6 at *;generalize G 83 [l0,7,0]=c7 at *;(try simp only[Bool.and_eq_true,Bool.or_eq_true,decide_eq_true_eq]at *);rw[Bool.eq_iff_iff];simp only[Bool.and_eq_true,Bool.or_eq_true,decide_eq_true_eq];omega
 refine aF lP (fun h20=>?_) (fun h20=>?_)
 ·skip
  refine aH aPC ?_
  unfold cX at h0;unfold dE at h1;unfold dG at h2;unfold dJ at h3;unfold dN at h4;unfold dR at h5;unfold dW at h6;unfold eE at h7;unfold eJ at h8;unfold eR at h9;unfold dV at h10;unfold eD at h11;unfold eI at h12;unfold eP at h13;unfold fJ at h14;unfold fS at h15;unfold gC at h16;unfold iM at h17;unfold jH at h18;unfold kN at h19;unfold lP at h20;unfold aBa;simp only[bI];refine⟨rfl,?_⟩;simp only[aJ];refine⟨?_,trivial⟩;simp only[nn,List.cons_append,List.nil_append,Bool.or_eq_true,aR,ne_eq]at *;generalize G 83 [l0,0,0]=c0 at *;generalize G 83 [l0,1,0]=c1 at *;generalize G 83 [l0,2,0]=c2 at *;generalize G 83 [l0,3,0]=c3 at *;generalize G 83 [l0,4,0]=c4 at *;generalize G 83 [l0,5,0]=c5 at *;generalize G 83 [l0,6,0]=c6 at *;generalize G 83 [l0,7,0]=c7 at *;(try simp only[Bool.and_eq_true,Bool.or_eq_true,decide_eq_true_eq]at *);rw[Bool.eq_iff_iff];simp only[Bool.and_eq_true,Bool.or_eq_true,decide_eq_true_eq];omega
 refine aF oK (fun h21=>?_) (fun h21=>?_)
 rotate_left
 ·skip
  refine aH aPV ?_
  unfold cX at h0;unfold dE at h1;unfold dG at h2;unfold dJ at h3;unfold dN at h4;unfold dR at h5;unfold dW at h6;unfold eE at h7;unfold eJ at h8;unfold eR at h9;unfold dV at h10;unfold eD at h11;unfold eI at h12;unfold eP at h13;unfold fJ at h14;unfold fS at h15;unfold gC at h16;unfold iM at h17;unfold jH at h18;unfold kN at h19;unfold lP at h20;unfold oK at h21;unfold fE;simp only[bI];refine⟨rfl,?_⟩;simp only[aJ];refine⟨?_,trivial⟩;simp only[nn,List.cons_append,List.nil_append,Bool.or_eq_true,aR,ne_eq]at *;generalize G 83 [l0,0,0]=c0 at *;generalize G 83 [l0,1,0]=c1 at *;generalize G 83 [l0,2,0]=c2 at *;generalize G 83 [l0,3,0]=c3 at *;generalize G 83 [l0,4,0]=c4 at *;generalize G 83 [l0,5,0]=c5 at *;generalize G 83 [l0,6,0]=c6 at *;generalize G 83 [l0,7,0]=c7 at *;(try simp only[Bool.and_eq_true,Bool.or_eq_true,decide_eq_true_eq]at *);rw[Bool.eq_iff_iff];simp only[Bool.and_eq_true,Bool.or_eq_true,decide_eq_true_eq];omega
 refine aF qT (fun h22=>?_) (fun h22=>?_)
 ·skip
  refine aH aNk ?_
  unfold cX at h0;unfold dE at h1;unfold dG at h2;unfold dJ at h3;unfold dN at h4;unfold dR at h5;unfold dW at h6;unfold eE at h7;unfold eJ at h8;unfold eR at h9;unfold dV at h10;unfold eD at h11;unfold eI at h12;unfold eP at h13;unfold fJ at h14;unfold fS at h15;unfold gC at h16;unfold iM at h17;unfold jH at h18;unfold kN at h19;unfold lP at h20;unfold oK at h21;unfold qT at h22;unfold aBL;simp only[bI];refine⟨rfl,?_⟩;simp only[aJ];refine⟨?_,trivial⟩;simp only[nn,List.cons_append,List.nil_append,Bool.or_eq_true,aR,ne_eq]at *;generalize G 83 [l0,0,0]=c0 at *;generalize G 83 [l0,1,0]=c1 at *;generalize G 83 [l0,2,0]=c2 at *;generalize G 83 [l0,3,0]=c3 at *;generalize G 83 [l0,4,0]=c4 at *;generalize G 83 [l0,5,0]=c5 at *;generalize G 83 [l0,6,0]=c6 at *;generalize G 83 [l0,7,0]=c7 at *;(try simp only[Bool.and_eq_true,Bool.or_eq_true,decide_eq_true_eq]at *);rw[Bool.eq_iff_iff];simp only[Bool.and_eq_true,Bool.or_eq_true,decide_eq_true_eq];omega
 refine aF tL (fun h23=>?_) (fun h23=>?_)
 ·skip
  refine aH aMp ?_
  unfold cX at h0;unfold dE at h1;unfold dG at h2;unfold dJ at h3;unfold dN at h4;unfold dR at h5;unfold dW at h6;unfold eE at h7;unfold eJ at h8;unfold eR at h9;unfold dV at h10;unfold eD at h11;unfold eI at h12;unfold eP at h13;unfold fJ at h14;unfold fS at h15;unfold gC at h16;unfold iM at h17;unfold jH at h18;unfold kN at h19;unfold lP at h20;unfold oK at h21;unfold qT at h22;unfold tL at h23;unfold aBL;simp only[bI];refine⟨rfl,?_⟩;simp only[aJ];refine⟨?_,trivial⟩;simp only[nn,List.cons_append,List.nil_append,Bool.or_eq_true,aR,ne_eq]at *;generalize G 83 [l0,0,0]=c0 at *;generalize G 83 [l0,1,0]=c1 at *;generalize G 83 [l0,2,0]=c2 at *;generalize G 83 [l0,3,0]=c3 at *;generalize G 83 [l0,4,0]=c4 at *;generalize G 83 [l0,5,0]=c5 at *;generalize G 83 [l0,6,0]=c6 at *;generalize G 83 [l0,7,0]=c7 at *;(try simp only[Bool.and_eq_true,Bool.or_eq_true,decide_eq_true_eq]at *);rw[Bool.eq_iff_iff];simp only[Bool.and_eq_true,Bool.or_eq_true,decide_eq_true_eq];omega
 refine aH aN3 ?_
 unfold cX at h0;unfold dE at h1;unfold dG at h2;unfold dJ at h3;unfold dN at h4;unfold dR at h5;unfold dW at h6;unfold eE at h7;unfold eJ at h8;unfold eR at h9;unfold dV at h10;unfold eD at h11;unfold eI at h12;unfold eP at h13;unfold fJ at h14;unfold fS at h15;unfold gC at h16;unfold iM at h17;unfold jH at h18;unfold kN at h19;unfold lP at h20;unfold oK at h21;unfold qT at h22;unfold tL at h23;unfold fE;simp only[bI];refine⟨rfl,?_⟩;simp only[aJ];refine⟨?_,trivial⟩;simp only[nn,List.cons_append,List.nil_append,Bool.or_eq_true,aR,ne_eq]at *;generalize G 83 [l0,0,0]=c0 at *;generalize G 83 [l0,1,0]=c1 at *;generalize G 83 [l0,2,0]=c2 at *;generalize G 83 [l0,3,0]=c3 at *;generalize G 83 [l0,4,0]=c4 at *;generalize G 83 [l0,5,0]=c5 at *;generalize G 83 [l0,6,0]=c6 at *;generalize G 83 [l0,7,0]=c7 at *;(try simp only[Bool.and_eq_true,Bool.or_eq_true,decide_eq_true_eq]at *);rw[Bool.eq_iff_iff];simp only[Bool.and_eq_true,Bool.or_eq_true,decide_eq_true_eq];omega
def aCS:Ctx→List SV→aM→Res (SV × aM):=eA GB [(0,8)] 1 (.lit true) aSc
theorem aTT {X:Ctx} {ρ:Nat→Int} (hX:X.Ok ρ) (hG:X.G=G):eT Try.prog X ρ GB 70 aCS:=by
 obtain⟨XG,XI,XV,XF⟩:=X
 simp only at hG
 subst hG
 refine cU hX ?_
 intro xs ls hw hl hp
 obtain⟨x0,y0,e0,b0,h0⟩:=aY hw
 have e1:=kG h0
 subst e1 e0
 obtain⟨l0,z0,q0,hl0⟩:=bL hl
 have q1:=List.length_eq_zero_iff.1 hl0
 subst q1 q0
 exact aRo x0 l0 b0
def aAE:Ctx→List SV→aM→Res (SV × aM):=rZ aC6
theorem aSe {X:Ctx} {ρ:Nat→Int} (hX:X.Ok ρ) (hG:X.G=G):eT Try.prog X ρ GB 91 aAE:=mY hX (aTK hX hG)
def aAg:Ctx→List SV→aM→Res (SV × aM):=rZ aCn
theorem aRv {X:Ctx} {ρ:Nat→Int} (hX:X.Ok ρ) (hG:X.G=G):eT Try.prog X ρ GB 91 aAg:=mY hX (aTP hX hG)
def aAv:Ctx→List SV→aM→Res (SV × aM):=rZ aCS
theorem aTo {X:Ctx} {ρ:Nat→Int} (hX:X.Ok ρ) (hG:X.G=G):eT Try.prog X ρ GB 70 aAv:=mY hX (aTT hX hG)
def aQ5:bA:=gF 91 (aA7 aAE aAg) jY
theorem aJU {X:Ctx} {ρ:Nat→Int} (hX:X.Ok ρ) (hG:X.G=G):fL Try.prog X ρ GB aQ5:=eF (aAH (aSe hX hG) (aRv hX hG)) (eL hX hG)
def aQY:bA:=gF 70 aAv aQ5
theorem aIG {X:Ctx} {ρ:Nat→Int} (hX:X.Ok ρ) (hG:X.G=G):fL Try.prog X ρ GB aQY:=eF (aTo hX hG) (aJU hX hG)
def aT9:B:=(.lit true)
def aRn:FunS:=⟨[(.slice 0 0 6 6),(.int .i64 (.var 0))],[some ([(.int .i64 (.lit 1)),(.int .i64 (.lit 2)),(.int .i64 (.lit 4)),(.int .i64 (.lit 8)),(.int .i64 (.lit 12)),(.int .i64 (.lit 16))],3)],aT9,(.bool (.or (.cmp .eq (.var 0) (.lit 1)) (.or (.cmp .eq (.var 0) (.lit 2)) (.or (.cmp .eq (.var 0) (.lit 4)) (.or (.cmp .eq (.var 0) (.lit 8)) (.or (.cmp .eq (.var 0) (.lit 12)) (.cmp .eq (.var 0) (.lit 16)))))))),[some ([(.int .i64 (.lit 1)),(.int .i64 (.lit 2)),(.int .i64 (.lit 4)),(.int .i64 (.lit 8)),(.int .i64 (.lit 12)),(.int .i64 (.lit 16))],3)],(.bool (.or (.cmp .eq (.var 0) (.lit 1)) (.or (.cmp .eq (.var 0) (.lit 2)) (.or (.cmp .eq (.var 0) (.lit 4)) (.or (.cmp .eq (.var 0) (.lit 8)) (.or (.cmp .eq (.var 0) (.lit 12)) (.cmp .eq (.var 0) (.lit 16)))))))),[some ([(.int .i64 (.lit 1)),(.int .i64 (.lit 2)),(.int .i64 (.lit 4)),(.int .i64 (.lit 8)),(.int .i64 (.lit 12)),(.int .i64 (.lit 16))],3)]⟩
def aJR (P:Program) (fs:List B):Res SV:=cO G GI [((-9223372036854775808),9223372036854775807)] fs fun X=>gQ P X GB jY eG 4000 72 aRn
end Go.Proofs.Ytdldallkeheciaa
set_option maxRecDepth 100000
namespace Go.Proofs.Ytdldallkeheciaa
open Go Go.RowKit Sx Wi Lk
def xS (P:Program) (fs:List B):Res SV:=aJR P fs
def aJg:List B:=[]
def mE:B:=(.cmp .eq (.var 0) (.lit 1))
def aRr:List B:=aI mE++aJg
def aIC:List B:=aI (B.neg mE)++aJg
def oN:B:=(.cmp .eq (.var 0) (.lit 2))
def aTk:List B:=aI oN++aIC
def aJd:List B:=aI (B.neg oN)++aIC
def oW:B:=(.cmp .eq (.var 0) (.lit 4))
def aRP:List B:=aI oW++aJd
def aKt:List B:=aI (B.neg oW)++aJd
def rT:B:=(.cmp .eq (.var 0) (.lit 8))
def aSh:List B:=aI rT++aKt
def aKO:List B:=aI (B.neg rT)++aKt
def uL:B:=(.cmp .eq (.var 0) (.lit 12))
def aRC:List B:=aI uL++aKO
def aFz:List B:=aI (B.neg uL)++aKO
def yU:B:=(.cmp .eq (.var 0) (.lit 16))
def aM8:List B:=aI yU++aFz
def aPJ:List B:=aI (B.neg yU)++aFz
theorem aSF:xS Try.prog aRr = .ok (.tuple [(.agg [(.bool (.cmp .le (.lit 0) (.lit 0))),(.bool (.or (.cmp .eq (.var 0) (.lit 1)) (.or (.cmp .eq (.var 0) (.lit 2)) (.or (.cmp .eq (.var 0) (.lit 4)) (.or (.cmp .eq (.var 0) (.lit 8)) (.or (.cmp .eq (.var 0) (.lit 12)) (.cmp .eq (.var 0) (.lit 16))))))))]),(.bool (.lit true))]):=by kernel_rfl
theorem aRI:xS Try.prog aTk = .ok (.tuple [(.agg [(.bool (.cmp .le (.lit 0) (.lit 1))),(.bool (.or (.cmp .eq (.var 0) (.lit 1)) (.or (.cmp .eq (.var 0) (.lit 2)) (.or (.cmp .eq (.var 0) (.lit 4)) (.or (.cmp .eq (.var 0) (.lit 8)) (.or (.cmp .eq (.var 0) (.lit 12)) (.cmp .eq (.var 0) (.lit 16))))))))]),(.bool (.lit true))]):=by kernel_rfl
theorem aSP:xS Try.prog aRP = .ok (.tuple [(.agg [(.bool (.cmp .le (.lit 0) (.lit 2))),(.bool (.or (.cmp .eq (.var 0) (.lit 1)) (.or (.cmp .eq (.var 0) (.lit 2)) (.or (.cmp .eq (.var 0) (.lit 4)) (.or (.cmp .eq (.var 0) (.lit 8)) (.or (.cmp .eq (.var 0) (.lit 12)) (.cmp .eq (.var 0) (.lit 16))))))))]),(.bool (.lit true))]):=by kernel_rfl
theorem aSx:xS Try.prog aSh = .ok (.tuple [(.agg [(.bool (.cmp .le (.lit 0) (.lit 3))),(.bool (.or (.cmp .eq (.var 0) (.lit 1)) (.or (.cmp .eq (.var 0) (.lit 2)) (.or (.cmp .eq (.var 0) (.lit 4)) (.or (.cmp .eq (.var 0) (.lit 8)) (.or (.cmp .eq (.var 0) (.lit 12)) (.cmp .eq (.var 0) (.lit 16))))))))]),(.bool (.lit true))]):=by kernel_rfl
theorem aS5:xS Try.prog aRC = .ok (.tuple [(.agg [(.bool (.cmp .le (.lit 0) (.lit 4))),(.bool (.or (.cmp .eq (.var 0) (.lit 1)) (.or (.cmp .eq (.var 0) (.lit 2)) (.or (.cmp .eq (.var 0) (.lit 4)) (.or (.cmp .eq (.var 0) (.lit 8)) (.or (.cmp .eq (.var 0) (.lit 12)) (.cmp .eq (.var 0) (.lit 16))))))))]),(.bool (.lit true))]):=by kernel_rfl
theorem aMs:xS Try.prog aM8 = .ok (.tuple [(.agg [(.bool (.cmp .le (.lit 0) (.lit 5))),(.bool (.or (.cmp .eq (.var 0) (.lit 1)) (.or (.cmp .eq (.var 0) (.lit 2)) (.or (.cmp .eq (.var 0) (.lit 4)) (.or (.cmp .eq (.var 0) (.lit 8)) (.or (.cmp .eq (.var 0) (.lit 12)) (.cmp .eq (.var 0) (.lit 16))))))))]),(.bool (.lit true))]):=by kernel_rfl
theorem aMx:xS Try.prog aPJ = .ok (.tuple [(.agg [(.bool (.cmp .le (.lit 0) (.lit (-1)))),(.bool (.or (.cmp .eq (.var 0) (.lit 1)) (.or (.cmp .eq (.var 0) (.lit 2)) (.or (.cmp .eq (.var 0) (.lit 4)) (.or (.cmp .eq (.var 0) (.lit 8)) (.or (.cmp .eq (.var 0) (.lit 12)) (.cmp .eq (.var 0) (.lit 16))))))))]),(.bool (.lit true))]):=by kernel_rfl
end Go.Proofs.Ytdldallkeheciaa
namespace Go.Proofs.Ytdldallkeheciaa
open Go Go.RowKit Sx Wi Lk
set_option maxHeartbeats 8000000 in
set_option maxRecDepth 100000 in
theorem aS4 (x0:Int) (b0:(-9223372036854775808)≤x0∧x0≤9223372036854775807):fX Try.prog G GB 72 aRn (dM ([x0]++[])):=by
 refine dB (lp:=eG) (run:=aJR Try.prog) (fun _=>rfl) fits (cM (xs:=[x0]) (ls:=[]) (by exact⟨b0,trivial⟩)) iJ (fun X hX hG=>eL hX hG) (fun X hX hG fn c hf hc=>dD) rfl ?_
 refine aF mE (fun h0=>?_) (fun h0=>?_)
 ·skip
  refine aH aSF ?_
  unfold mE at h0;simp only[bI];refine⟨rfl,?_⟩;simp only[aJ];refine⟨?_,trivial⟩;simp only[nn,List.cons_append,List.nil_append,Bool.or_eq_true,aR,ne_eq]at *;rw[Bool.eq_iff_iff];simp only[Bool.and_eq_true,Bool.or_eq_true,decide_eq_true_eq];omega
 refine aF oN (fun h1=>?_) (fun h1=>?_)
 ·skip
  refine aH aRI ?_
  unfold mE at h0;unfold oN at h1;simp only[bI];refine⟨rfl,?_⟩;simp only[aJ];refine⟨?_,trivial⟩;simp only[nn,List.cons_append,List.nil_append,Bool.or_eq_true,aR,ne_eq]at *;rw[Bool.eq_iff_iff];simp only[Bool.and_eq_true,Bool.or_eq_true,decide_eq_true_eq];omega
 refine aF oW (fun h2=>?_) (fun h2=>?_)
 ·skip
  refine aH aSP ?_
  unfold mE at h0;unfold oN at h1;unfold oW at h2;simp only[bI];refine⟨rfl,?_⟩;simp only[aJ];refine⟨?_,trivial⟩;simp only[nn,List.cons_append,List.nil_append,Bool.or_eq_true,aR,ne_eq]at *;rw[Bool.eq_iff_iff];simp only[Bool.and_eq_true,Bool.or_eq_true,decide_eq_true_eq];omega
 refine aF rT (fun h3=>?_) (fun h3=>?_)
 ·skip
  refine aH aSx ?_
  unfold mE at h0;unfold oN at h1;unfold oW at h2;unfold rT at h3;simp only[bI];refine⟨rfl,?_⟩;simp only[aJ];refine⟨?_,trivial⟩;simp only[nn,List.cons_append,List.nil_append,Bool.or_eq_true,aR,ne_eq]at *;rw[Bool.eq_iff_iff];simp only[Bool.and_eq_true,Bool.or_eq_true,decide_eq_true_eq];omega
 refine aF uL (fun h4=>?_) (fun h4=>?_)
 ·skip
  refine aH aS5 ?_
  unfold mE at h0;unfold oN at h1;unfold oW at h2;unfold rT at h3;unfold uL at h4;simp only[bI];refine⟨rfl,?_⟩;simp only[aJ];refine⟨?_,trivial⟩;simp only[nn,List.cons_append,List.nil_append,Bool.or_eq_true,aR,ne_eq]at *;rw[Bool.eq_iff_iff];simp only[Bool.and_eq_true,Bool.or_eq_true,decide_eq_true_eq];omega
 refine aF yU (fun h5=>?_) (fun h5=>?_)
 ·skip
  refine aH aMs ?_
  unfold mE at h0;unfold oN at h1;unfold oW at h2;unfold rT at h3;unfold uL at h4;unfold yU at h5;simp only[bI];refine⟨rfl,?_⟩;simp only[aJ];refine⟨?_,trivial⟩;simp only[nn,List.cons_append,List.nil_append,Bool.or_eq_true,aR,ne_eq]at *;rw[Bool.eq_iff_iff];simp only[Bool.and_eq_true,Bool.or_eq_true,decide_eq_true_eq];omega
 refine aH aMx ?_
 unfold mE at h0;unfold oN at h1;unfold oW at h2;unfold rT at h3;unfold uL at h4;unfold yU at h5;simp only[bI];refine⟨rfl,?_⟩;simp only[aJ];refine⟨?_,trivial⟩;simp only[nn,List.cons_append,List.nil_append,Bool.or_eq_true,aR,ne_eq]at *;rw[Bool.eq_iff_iff];simp only[Bool.and_eq_true,Bool.or_eq_true,decide_eq_true_eq];omega
def aCo:Ctx→List SV→aM→Res (SV × aM):=eA GB [((-9223372036854775808),9223372036854775807)] 0 (.lit true) aRn
theorem aTL {X:Ctx} {ρ:Nat→Int} (hX:X.Ok ρ) (hG:X.G=G):eT Try.prog X ρ GB 72 aCo:=by
 obtain⟨XG,XI,XV,XF⟩:=X
 simp only at hG
 subst hG
 refine cU hX ?_
 intro xs ls hw hl hp
 obtain⟨x0,y0,e0,b0,h0⟩:=aY hw
 have e1:=kG h0
 subst e1 e0
 have q0:=List.length_eq_zero_iff.1 hl
 subst q0
 exact aS4 x0 b0
def aAm:Ctx→List SV→aM→Res (SV × aM):=rZ aCo
theorem aRY {X:Ctx} {ρ:Nat→Int} (hX:X.Ok ρ) (hG:X.G=G):eT Try.prog X ρ GB 72 aAm:=mY hX (aTL hX hG)
def aIl:bA:=gF 72 aAm aQY
theorem aCV {X:Ctx} {ρ:Nat→Int} (hX:X.Ok ρ) (hG:X.G=G):fL Try.prog X ρ GB aIl:=eF (aRY hX hG) (aIG hX hG)
def aUh:B:=(.lit true)
def aRF:FunS:=⟨[(.agg [(.int .u8 (.var 0)),(.own 0 (.var 1) none),(.own 1 (.var 2) none),(.own 2 (.var 3) none),(.int .i64 (.var 4)),(.own 3 (.var 5) none),(.own 4 (.var 6) none),(.own 5 (.var 7) none),.any,.any,.any,.any,.any,.any])],[some ([.vec [.int .i32,.int .i32] (.var 8) (.var 1) true],aG),some ([.vec [.int .i32,.int .i32] (.var 9) (.var 2) true],aG),some ([.vec [.int .i64] (.var 10) (.var 3) true],aG),some ([.vec [.int .i32,.int .i32] (.var 11) (.var 5) true],aG),some ([.vec [.int .i32,.int .i32] (.var 12) (.var 6) true],aG),some ([.vec [.int .u8] (.var 13) (.var 7) true],aG)],aUh,(.bool bQ),[some ([.vec [.int .i32,.int .i32] (.var 8) (.var 1) true],aG),some ([.vec [.int .i32,.int .i32] (.var 9) (.var 2) true],aG),some ([.vec [.int .i64] (.var 10) (.var 3) true],aG),some ([.vec [.int .i32,.int .i32] (.var 11) (.var 5) true],aG),some ([.vec [.int .i32,.int .i32] (.var 12) (.var 6) true],aG),some ([.vec [.int .u8] (.var 13) (.var 7) true],aG)],(.bool bQ),[some ([.vec [.int .i32,.int .i32] (.var 8) (.var 1) true],aG),some ([.vec [.int .i32,.int .i32] (.var 9) (.var 2) true],aG),some ([.vec [.int .i64] (.var 10) (.var 3) true],aG),some ([.vec [.int .i32,.int .i32] (.var 11) (.var 5) true],aG),some ([.vec [.int .i32,.int .i32] (.var 12) (.var 6) true],aG),some ([.vec [.int .u8] (.var 13) (.var 7) true],aG)]⟩
def aIf (P:Program) (fs:List B):Res SV:=cO G GI [(0,255),(0,8),(0,8),(0,8),((-9223372036854775808),9223372036854775807),(0,8),(0,8),(0,70000)] fs fun X=>gQ P X GB aIl eG 4000 40 aRF
end Go.Proofs.Ytdldallkeheciaa
