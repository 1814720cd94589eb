/- What is proved: what some functions leave,as it is told. No condition but the numbers' own bounds. -/
import Derived.Test.YtdldallkeheciaaQNn
import Derived.Test.YtdldallkeheciaaQa1
import Derived.Test.YtdldallkeheciaaQa4
set_option linter.unusedSimpArgs false
set_option linter.unusedVariables false
namespace Go.Proofs.Ytdldallkeheciaa
open Go Go.RowKit Sx Wi Lk
theorem bF {x0 x1 x2 x3 x4 x5 x6 x7 l0 l1 l2:Int} {ls:List Int} (h0:B.den G (cR ([x0,x1,x2,x3,x4,x5,x6,x7]++(l0::l1::l2::ls))) bV=true):(x0=1∧(1≤x1∧x1≤4)∧(1≤x2∧x2≤4)∧x3=x1∧(x4=1∨x4=2∨x4=4∨x4=8∨x4=12∨x4=16))∧(aK x2 x4 l2 0=x2*x4∧aK x2 x4 l2 1=x2*x4*G 83 [l2,0,0]∧aK x2 x4 l2 2=x2*x4*G 83 [l2,0,0]*G 83 [l2,1,0]∧aK x2 x4 l2 3=x2*x4*G 83 [l2,0,0]*G 83 [l2,1,0]*G 83 [l2,2,0]∧aK x2 x4 l2 4=x2*x4*G 83 [l2,0,0]*G 83 [l2,1,0]*G 83 [l2,2,0]*G 83 [l2,3,0])∧(((0:Int)≤x3→1≤aK x2 x4 l2 0∧aK x2 x4 l2 0≤64∧aK x2 x4 l2 0≤aK x2 x4 l2 x3.toNat)∧((1:Int)≤x3→1≤aK x2 x4 l2 1∧aK x2 x4 l2 1≤64*256∧aK x2 x4 l2 1≤aK x2 x4 l2 x3.toNat)∧((2:Int)≤x3→1≤aK x2 x4 l2 2∧aK x2 x4 l2 2≤64*65536∧aK x2 x4 l2 2≤aK x2 x4 l2 x3.toNat)∧((3:Int)≤x3→1≤aK x2 x4 l2 3∧aK x2 x4 l2 3≤64*16777216∧aK x2 x4 l2 3≤aK x2 x4 l2 x3.toNat)∧((4:Int)≤x3→1≤aK x2 x4 l2 4∧aK x2 x4 l2 4≤64*4294967296∧aK x2 x4 l2 4≤aK x2 x4 l2 x3.toNat))∧((x3=1→aK x2 x4 l2 x3.toNat=aK x2 x4 l2 1)∧(x3=2→aK x2 x4 l2 x3.toNat=aK x2 x4 l2 2)∧(x3=3→aK x2 x4 l2 x3.toNat=aK x2 x4 l2 3)∧(x3=4→aK x2 x4 l2 x3.toNat=aK x2 x4 l2 4))∧((1:Int)≤x3→IntKind.i64.wrap (x2*x4*G 83 [l2,0,0])=x2*x4*G 83 [l2,0,0])∧((2:Int)≤x3→IntKind.i64.wrap (x2*x4*G 83 [l2,0,0]*G 83 [l2,1,0])=x2*x4*G 83 [l2,0,0]*G 83 [l2,1,0])∧((3:Int)≤x3→IntKind.i64.wrap (x2*x4*G 83 [l2,0,0]*G 83 [l2,1,0]*G 83 [l2,2,0])=x2*x4*G 83 [l2,0,0]*G 83 [l2,1,0]*G 83 [l2,2,0])∧((4:Int)≤x3→IntKind.i64.wrap (x2*x4*G 83 [l2,0,0]*G 83 [l2,1,0]*G 83 [l2,2,0]*G 83 [l2,3,0])=x2*x4*G 83 [l2,0,0]*G 83 [l2,1,0]*G 83 [l2,2,0]*G 83 [l2,3,0]):=by
 have tb:=nF h0
 obtain⟨pb,pc⟩:=aIt tb
 obtain⟨t0,t1,_,t2,_,t3,_,t4,_⟩:=tb
 have f0:=pc 0
 have f1:=pc 1
 have f2:=pc 2
 have f3:=pc 3
 have f4:=pc 4
 have e0:aK x2 x4 l2 0=x2*x4:=rfl
 have e1:aK x2 x4 l2 1=x2*x4*G 83 [l2,0,0]:=rfl
 have e2:aK x2 x4 l2 2=x2*x4*G 83 [l2,0,0]*G 83 [l2,1,0]:=rfl
 have e3:aK x2 x4 l2 3=x2*x4*G 83 [l2,0,0]*G 83 [l2,1,0]*G 83 [l2,2,0]:=rfl
 have e4:aK x2 x4 l2 4=x2*x4*G 83 [l2,0,0]*G 83 [l2,1,0]*G 83 [l2,2,0]*G 83 [l2,3,0]:=rfl
 have en:∀ k:Nat,x3=k→aK x2 x4 l2 x3.toNat=aK x2 x4 l2 k:=(fun k q=>by rw[q];rfl)
 have g1:=en 1
 have g2:=en 2
 have g3:=en 3
 have g4:=en 4
 simp only[show (256:Int) ^ 0=1 from rfl,show (256:Int) ^ 1=256 from rfl,show (256:Int) ^ 2=65536 from rfl,show (256:Int) ^ 3=16777216 from rfl,show (256:Int) ^ 4=4294967296 from rfl,Int.cast_ofNat_Int,Int.natCast_zero,Int.natCast_one,Int.ofNat_zero]at f0 f1 f2 f3 f4 g1 g2 g3 g4
 refine⟨⟨t0,t1,t2,t3,t4⟩,⟨e0,e1,e2,e3,e4⟩,⟨f0,f1,f2,f3,f4⟩,⟨g1,g2,g3,g4⟩,?_,?_,?_,?_⟩
 ·intro q;have f:=f1 q;rw[←e1];exact iO .i64 _ (show (-9223372036854775808:Int)≤_ by omega) (show _≤(9223372036854775807:Int)by omega)
 ·intro q;have f:=f2 q;rw[←e2];exact iO .i64 _ (show (-9223372036854775808:Int)≤_ by omega) (show _≤(9223372036854775807:Int)by omega)
 ·intro q;have f:=f3 q;rw[←e3];exact iO .i64 _ (show (-9223372036854775808:Int)≤_ by omega) (show _≤(9223372036854775807:Int)by omega)
 ·intro q;have f:=f4 q;rw[←e4];exact iO .i64 _ (show (-9223372036854775808:Int)≤_ by omega) (show _≤(9223372036854775807:Int)by omega)
set_option maxHeartbeats 8000000 in
set_option maxRecDepth 100000 in
theorem aVP (x0 x1 x2 x3 x4 x5 x6 x7 l0 l1 l2 l3 l4 l5:Int) (b0:0≤x0∧x0≤255) (b1:0≤x1∧x1≤8) (b2:0≤x2∧x2≤8) (b3:0≤x3∧x3≤8) (b4:(-9223372036854775808)≤x4∧x4≤9223372036854775807) (b5:0≤x5∧x5≤8) (b6:0≤x6∧x6≤8) (b7:0≤x7∧x7≤70000):gD Try.prog G GB 13 aTF (cR ([x0,x1,x2,x3,x4,x5,x6,x7]++[l0,l1,l2,l3,l4,l5])):=by
 refine cX (lp:=dQ) (run:=aLF Try.prog) (fun _=>rfl) fits (bP (xs:=[x0,x1,x2,x3,x4,x5,x6,x7]) (ls:=[l0,l1,l2,l3,l4,l5]) (by exact⟨b0,b1,b2,b3,b4,b5,b6,b7,trivial⟩)) eS (fun X hX hG=>aDv hX hG) (fun X hX hG fn c hf hc=>cG) rfl ?_
 refine aG bZ (fun h0=>?_) (fun h0=>?_)
 rotate_left
 ·skip
  refine aH aQR ?_
  unfold bZ at h0;replace h0:B.den G (cR ([x0,x1,x2,x3,x4,x5,x6,x7]++[l0,l1,l2,l3,l4,l5])) bV=false:=h0;simp only[bK];refine⟨?_,?_⟩;(show B.den G _ dO=false;unfold dO;simp only[aZ,h0,Bool.false_and]);(simp only[aI];exact⟨aKN h0,trivial⟩)
 refine aG cD (fun h1=>?_) (fun h1=>?_)
 rotate_left
 ·skip
  refine aQ ?_
  unfold bZ at h0;unfold cD at h1;replace h0:B.den G (cR ([x0,x1,x2,x3,x4,x5,x6,x7]++[l0,l1,l2,l3,l4,l5])) bV=true:=h0;obtain⟨⟨t0,t1,t2,t3,t4⟩,⟨e0,e1,e2,e3,e4⟩,⟨f0,f1,f2,f3,f4⟩,⟨g1,g2,g3,g4⟩,w1,w2,w3,w4⟩:=bF h0;exfalso;clear h0;simp only[nn,List.cons_append,List.nil_append,Bool.or_eq_true,aP,ne_eq]at h1;(try simp (disch:=omega) only[w1,w2,w3,w4]at h1);generalize aK x2 x4 l2 x3.toNat=a at *;generalize aK x2 x4 l2 0=a0 at *;generalize aK x2 x4 l2 1=a1 at *;generalize aK x2 x4 l2 2=a2 at *;generalize aK x2 x4 l2 3=a3 at *;generalize aK x2 x4 l2 4=a4 at *;generalize G 83 [l2,0,0]=c0 at *;generalize G 83 [l2,1,0]=c1 at *;generalize G 83 [l2,2,0]=c2 at *;generalize G 83 [l2,3,0]=c3 at *;omega
 refine aG cH (fun h2=>?_) (fun h2=>?_)
 rotate_left
 ·skip
  refine aQ ?_
  unfold bZ at h0;unfold cD at h1;unfold cH at h2;replace h0:B.den G (cR ([x0,x1,x2,x3,x4,x5,x6,x7]++[l0,l1,l2,l3,l4,l5])) bV=true:=h0;obtain⟨⟨t0,t1,t2,t3,t4⟩,⟨e0,e1,e2,e3,e4⟩,⟨f0,f1,f2,f3,f4⟩,⟨g1,g2,g3,g4⟩,w1,w2,w3,w4⟩:=bF h0;exfalso;clear h0;simp only[nn,List.cons_append,List.nil_append,Bool.or_eq_true,aP,ne_eq]at h1 h2;(try simp (disch:=omega) only[w1,w2,w3,w4]at h1 h2);generalize aK x2 x4 l2 x3.toNat=a at *;generalize aK x2 x4 l2 0=a0 at *;generalize aK x2 x4 l2 1=a1 at *;generalize aK x2 x4 l2 2=a2 at *;generalize aK x2 x4 l2 3=a3 at *;generalize aK x2 x4 l2 4=a4 at *;generalize G 83 [l2,0,0]=c0 at *;generalize G 83 [l2,1,0]=c1 at *;generalize G 83 [l2,2,0]=c2 at *;generalize G 83 [l2,3,0]=c3 at *;omega
 refine aG cJ (fun h3=>?_) (fun h3=>?_)
 rotate_left
 ·skip
  refine aQ ?_
  unfold bZ at h0;unfold cD at h1;unfold cH at h2;unfold cJ at h3;replace h0:B.den G (cR ([x0,x1,x2,x3,x4,x5,x6,x7]++[l0,l1,l2,l3,l4,l5])) bV=true:=h0;obtain⟨⟨t0,t1,t2,t3,t4⟩,⟨e0,e1,e2,e3,e4⟩,⟨f0,f1,f2,f3,f4⟩,⟨g1,g2,g3,g4⟩,w1,w2,w3,w4⟩:=bF h0;exfalso;clear h0;simp only[nn,List.cons_append,List.nil_append,Bool.or_eq_true,aP,ne_eq]at h1 h2 h3;(try simp (disch:=omega) only[w1,w2,w3,w4]at h1 h2 h3);generalize aK x2 x4 l2 x3.toNat=a at *;generalize aK x2 x4 l2 0=a0 at *;generalize aK x2 x4 l2 1=a1 at *;generalize aK x2 x4 l2 2=a2 at *;generalize aK x2 x4 l2 3=a3 at *;generalize aK x2 x4 l2 4=a4 at *;generalize G 83 [l2,0,0]=c0 at *;generalize G 83 [l2,1,0]=c1 at *;generalize G 83 [l2,2,0]=c2 at *;generalize G 83 [l2,3,0]=c3 at *;omega
 refine aG cK (fun h4=>?_) (fun h4=>?_)
 rotate_left
 ·skip
  refine aQ ?_
  unfold bZ at h0;unfold cD at h1;unfold cH at h2;unfold cJ at h3;unfold cK at h4;replace h0:B.den G (cR ([x0,x1,x2,x3,x4,x5,x6,x7]++[l0,l1,l2,l3,l4,l5])) bV=true:=h0;obtain⟨⟨t0,t1,t2,t3,t4⟩,⟨e0,e1,e2,e3,e4⟩,⟨f0,f1,f2,f3,f4⟩,⟨g1,g2,g3,g4⟩,w1,w2,w3,w4⟩:=bF h0;exfalso;clear h0;simp only[nn,List.cons_append,List.nil_append,Bool.or_eq_true,aP,ne_eq]at h1 h2 h3 h4;(try simp (disch:=omega) only[w1,w2,w3,w4]at h1 h2 h3 h4);generalize aK x2 x4 l2 x3.toNat=a at *;generalize aK x2 x4 l2 0=a0 at *;generalize aK x2 x4 l2 1=a1 at *;generalize aK x2 x4 l2 2=a2 at *;generalize aK x2 x4 l2 3=a3 at *;generalize aK x2 x4 l2 4=a4 at *;generalize G 83 [l2,0,0]=c0 at *;generalize G 83 [l2,1,0]=c1 at *;generalize G 83 [l2,2,0]=c2 at *;generalize G 83 [l2,3,0]=c3 at *;omega
 refine aG cL (fun h5=>?_) (fun h5=>?_)
 ·skip
  refine aG kN (fun h6=>?_) (fun h6=>?_)
  rotate_left
  ·skip
   refine aQ ?_
   unfold bZ at h0;unfold cD at h1;unfold cH at h2;unfold cJ at h3;unfold cK at h4;unfold cL at h5;unfold kN at h6;replace h0:B.den G (cR ([x0,x1,x2,x3,x4,x5,x6,x7]++[l0,l1,l2,l3,l4,l5])) bV=true:=h0;obtain⟨⟨t0,t1,t2,t3,t4⟩,⟨e0,e1,e2,e3,e4⟩,⟨f0,f1,f2,f3,f4⟩,⟨g1,g2,g3,g4⟩,w1,w2,w3,w4⟩:=bF h0;exfalso;clear h0;simp only[nn,List.cons_append,List.nil_append,Bool.or_eq_true,aP,ne_eq]at h1 h2 h3 h4 h5 h6;(try simp (disch:=omega) only[w1,w2,w3,w4]at h1 h2 h3 h4 h5 h6);generalize aK x2 x4 l2 x3.toNat=a at *;generalize aK x2 x4 l2 0=a0 at *;generalize aK x2 x4 l2 1=a1 at *;generalize aK x2 x4 l2 2=a2 at *;generalize aK x2 x4 l2 3=a3 at *;generalize aK x2 x4 l2 4=a4 at *;generalize G 83 [l2,0,0]=c0 at *;generalize G 83 [l2,1,0]=c1 at *;generalize G 83 [l2,2,0]=c2 at *;generalize G 83 [l2,3,0]=c3 at *;omega
  refine aG kO (fun h7=>?_) (fun h7=>?_)
  ·skip
   refine aH aUa ?_
   unfold bZ at h0;unfold cD at h1;unfold cH at h2;unfold cJ at h3;unfold cK at h4;unfold cL at h5;unfold kN at h6;unfold kO at h7;replace h0:B.den G (cR ([x0,x1,x2,x3,x4,x5,x6,x7]++[l0,l1,l2,l3,l4,l5])) bV=true:=h0;obtain⟨⟨t0,t1,t2,t3,t4⟩,⟨e0,e1,e2,e3,e4⟩,⟨f0,f1,f2,f3,f4⟩,⟨g1,g2,g3,g4⟩,w1,w2,w3,w4⟩:=bF h0;have h0':=h0;clear h0;simp only[nn,List.cons_append,List.nil_append,Bool.or_eq_true,aP,ne_eq]at h1 h2 h3 h4 h5 h6 h7;(try simp (disch:=omega) only[w1,w2,w3,w4]at h1 h2 h3 h4 h5 h6 h7);(try simp (disch:=omega) only[Int.tdiv_eq_ediv_of_nonneg]at *);simp only[bK];have key:524288<aK x2 x4 l2 x3.toNat:=(by generalize aK x2 x4 l2 x3.toNat=a at *;generalize aK x2 x4 l2 0=a0 at *;generalize aK x2 x4 l2 1=a1 at *;generalize aK x2 x4 l2 2=a2 at *;generalize aK x2 x4 l2 3=a3 at *;generalize aK x2 x4 l2 4=a4 at *;generalize G 83 [l2,0,0]=c0 at *;generalize G 83 [l2,1,0]=c1 at *;generalize G 83 [l2,2,0]=c2 at *;generalize G 83 [l2,3,0]=c3 at *;omega);refine⟨?_,?_⟩;(show B.den G _ dO=false;unfold dO;simp only[aZ,h0',Bool.true_and];rw[Bool.eq_false_iff];intro q;simp only[Bool.and_eq_true]at q;simp only[nn,List.cons_append,List.nil_append,Bool.or_eq_true,aP,ne_eq]at q;have q1:aK x2 x4 l2 x3.toNat≤524288∧aK x2 x4 l2 x3.toNat≤8*x7:=q;omega);(simp only[aI];exact⟨mE h0' key,trivial⟩)
  refine aG mL (fun h8=>?_) (fun h8=>?_)
  ·skip
   refine aH aSf ?_
   unfold bZ at h0;unfold cD at h1;unfold cH at h2;unfold cJ at h3;unfold cK at h4;unfold cL at h5;unfold kN at h6;unfold kO at h7;unfold mL at h8;replace h0:B.den G (cR ([x0,x1,x2,x3,x4,x5,x6,x7]++[l0,l1,l2,l3,l4,l5])) bV=true:=h0;obtain⟨⟨t0,t1,t2,t3,t4⟩,⟨e0,e1,e2,e3,e4⟩,⟨f0,f1,f2,f3,f4⟩,⟨g1,g2,g3,g4⟩,w1,w2,w3,w4⟩:=bF h0;have h0':=h0;clear h0;simp only[nn,List.cons_append,List.nil_append,Bool.or_eq_true,aP,ne_eq]at h1 h2 h3 h4 h5 h6 h7 h8;(try simp (disch:=omega) only[w1,w2,w3,w4]at h1 h2 h3 h4 h5 h6 h7 h8);(try simp (disch:=omega) only[Int.tdiv_eq_ediv_of_nonneg]at *);simp only[bK];have key:aK x2 x4 l2 x3.toNat≤524288∧8*x7<aK x2 x4 l2 x3.toNat:=(by generalize aK x2 x4 l2 x3.toNat=a at *;generalize aK x2 x4 l2 0=a0 at *;generalize aK x2 x4 l2 1=a1 at *;generalize aK x2 x4 l2 2=a2 at *;generalize aK x2 x4 l2 3=a3 at *;generalize aK x2 x4 l2 4=a4 at *;generalize G 83 [l2,0,0]=c0 at *;generalize G 83 [l2,1,0]=c1 at *;generalize G 83 [l2,2,0]=c2 at *;generalize G 83 [l2,3,0]=c3 at *;omega);refine⟨?_,?_⟩;(show B.den G _ dO=false;unfold dO;simp only[aZ,h0',Bool.true_and];rw[Bool.eq_false_iff];intro q;simp only[Bool.and_eq_true]at q;simp only[nn,List.cons_append,List.nil_append,Bool.or_eq_true,aP,ne_eq]at q;have q1:aK x2 x4 l2 x3.toNat≤524288∧aK x2 x4 l2 x3.toNat≤8*x7:=q;omega);(simp only[aI];exact⟨iH h0' key.1,trivial⟩)
  refine aH aQO ?_
  unfold bZ at h0;unfold cD at h1;unfold cH at h2;unfold cJ at h3;unfold cK at h4;unfold cL at h5;unfold kN at h6;unfold kO at h7;unfold mL at h8;replace h0:B.den G (cR ([x0,x1,x2,x3,x4,x5,x6,x7]++[l0,l1,l2,l3,l4,l5])) bV=true:=h0;obtain⟨⟨t0,t1,t2,t3,t4⟩,⟨e0,e1,e2,e3,e4⟩,⟨f0,f1,f2,f3,f4⟩,⟨g1,g2,g3,g4⟩,w1,w2,w3,w4⟩:=bF h0;simp only[bK];refine⟨?_,trivial⟩;show B.den G _ dO=true;unfold dO;simp only[aZ,h0,Bool.true_and,Bool.and_eq_true];clear h0;simp only[nn,List.cons_append,List.nil_append,Bool.or_eq_true,aP,ne_eq]at h1 h2 h3 h4 h5 h6 h7 h8;(try simp (disch:=omega) only[w1,w2,w3,w4]at h1 h2 h3 h4 h5 h6 h7 h8);(try simp (disch:=omega) only[Int.tdiv_eq_ediv_of_nonneg]at *);simp only[nn,List.cons_append,List.nil_append,Bool.or_eq_true,aP,ne_eq];show aK x2 x4 l2 x3.toNat≤524288∧aK x2 x4 l2 x3.toNat≤8*x7;generalize aK x2 x4 l2 x3.toNat=a at *;generalize aK x2 x4 l2 0=a0 at *;generalize aK x2 x4 l2 1=a1 at *;generalize aK x2 x4 l2 2=a2 at *;generalize aK x2 x4 l2 3=a3 at *;generalize aK x2 x4 l2 4=a4 at *;generalize G 83 [l2,0,0]=c0 at *;generalize G 83 [l2,1,0]=c1 at *;generalize G 83 [l2,2,0]=c2 at *;generalize G 83 [l2,3,0]=c3 at *;omega
 refine aG cS (fun h6=>?_) (fun h6=>?_)
 rotate_left
 ·skip
  refine aG kN (fun h7=>?_) (fun h7=>?_)
  rotate_left
  ·skip
   refine aQ ?_
   unfold bZ at h0;unfold cD at h1;unfold cH at h2;unfold cJ at h3;unfold cK at h4;unfold cL at h5;unfold cS at h6;unfold kN at h7;replace h0:B.den G (cR ([x0,x1,x2,x3,x4,x5,x6,x7]++[l0,l1,l2,l3,l4,l5])) bV=true:=h0;obtain⟨⟨t0,t1,t2,t3,t4⟩,⟨e0,e1,e2,e3,e4⟩,⟨f0,f1,f2,f3,f4⟩,⟨g1,g2,g3,g4⟩,w1,w2,w3,w4⟩:=bF h0;exfalso;clear h0;simp only[nn,List.cons_append,List.nil_append,Bool.or_eq_true,aP,ne_eq]at h1 h2 h3 h4 h5 h6 h7;(try simp (disch:=omega) only[w1,w2,w3,w4]at h1 h2 h3 h4 h5 h6 h7);generalize aK x2 x4 l2 x3.toNat=a at *;generalize aK x2 x4 l2 0=a0 at *;generalize aK x2 x4 l2 1=a1 at *;generalize aK x2 x4 l2 2=a2 at *;generalize aK x2 x4 l2 3=a3 at *;generalize aK x2 x4 l2 4=a4 at *;generalize G 83 [l2,0,0]=c0 at *;generalize G 83 [l2,1,0]=c1 at *;generalize G 83 [l2,2,0]=c2 at *;generalize G 83 [l2,3,0]=c3 at *;omega
  refine aG kO (fun h8=>?_) (fun h8=>?_)
  ·skip
   refine aH aQ7 ?_
   unfold bZ at h0;unfold cD at h1;unfold cH at h2;unfold cJ at h3;unfold cK at h4;unfold cL at h5;unfold cS at h6;unfold kN at h7;unfold kO at h8;replace h0:B.den G (cR ([x0,x1,x2,x3,x4,x5,x6,x7]++[l0,l1,l2,l3,l4,l5])) bV=true:=h0;obtain⟨⟨t0,t1,t2,t3,t4⟩,⟨e0,e1,e2,e3,e4⟩,⟨f0,f1,f2,f3,f4⟩,⟨g1,g2,g3,g4⟩,w1,w2,w3,w4⟩:=bF h0;have h0':=h0;clear h0;simp only[nn,List.cons_append,List.nil_append,Bool.or_eq_true,aP,ne_eq]at h1 h2 h3 h4 h5 h6 h7 h8;(try simp (disch:=omega) only[w1,w2,w3,w4]at h1 h2 h3 h4 h5 h6 h7 h8);(try simp (disch:=omega) only[Int.tdiv_eq_ediv_of_nonneg]at *);simp only[bK];have key:524288<aK x2 x4 l2 x3.toNat:=(by generalize aK x2 x4 l2 x3.toNat=a at *;generalize aK x2 x4 l2 0=a0 at *;generalize aK x2 x4 l2 1=a1 at *;generalize aK x2 x4 l2 2=a2 at *;generalize aK x2 x4 l2 3=a3 at *;generalize aK x2 x4 l2 4=a4 at *;generalize G 83 [l2,0,0]=c0 at *;generalize G 83 [l2,1,0]=c1 at *;generalize G 83 [l2,2,0]=c2 at *;generalize G 83 [l2,3,0]=c3 at *;omega);refine⟨?_,?_⟩;(show B.den G _ dO=false;unfold dO;simp only[aZ,h0',Bool.true_and];rw[Bool.eq_false_iff];intro q;simp only[Bool.and_eq_true]at q;simp only[nn,List.cons_append,List.nil_append,Bool.or_eq_true,aP,ne_eq]at q;have q1:aK x2 x4 l2 x3.toNat≤524288∧aK x2 x4 l2 x3.toNat≤8*x7:=q;omega);(simp only[aI];exact⟨mE h0' key,trivial⟩)
  refine aG mL (fun h9=>?_) (fun h9=>?_)
  ·skip
   refine aH aSC ?_
   unfold bZ at h0;unfold cD at h1;unfold cH at h2;unfold cJ at h3;unfold cK at h4;unfold cL at h5;unfold cS at h6;unfold kN at h7;unfold kO at h8;unfold mL at h9;replace h0:B.den G (cR ([x0,x1,x2,x3,x4,x5,x6,x7]++[l0,l1,l2,l3,l4,l5])) bV=true:=h0;obtain⟨⟨t0,t1,t2,t3,t4⟩,⟨e0,e1,e2,e3,e4⟩,⟨f0,f1,f2,f3,f4⟩,⟨g1,g2,g3,g4⟩,w1,w2,w3,w4⟩:=bF h0;have h0':=h0;clear h0;simp only[nn,List.cons_append,List.nil_append,Bool.or_eq_true,aP,ne_eq]at h1 h2 h3 h4 h5 h6 h7 h8 h9;(try simp (disch:=omega) only[w1,w2,w3,w4]at h1 h2 h3 h4 h5 h6 h7 h8 h9);(try simp (disch:=omega) only[Int.tdiv_eq_ediv_of_nonneg]at *);simp only[bK];have key:aK x2 x4 l2 x3.toNat≤524288∧8*x7<aK x2 x4 l2 x3.toNat:=(by generalize aK x2 x4 l2 x3.toNat=a at *;generalize aK x2 x4 l2 0=a0 at *;generalize aK x2 x4 l2 1=a1 at *;generalize aK x2 x4 l2 2=a2 at *;generalize aK x2 x4 l2 3=a3 at *;generalize aK x2 x4 l2 4=a4 at *;generalize G 83 [l2,0,0]=c0 at *;generalize G 83 [l2,1,0]=c1 at *;generalize G 83 [l2,2,0]=c2 at *;generalize G 83 [l2,3,0]=c3 at *;omega);refine⟨?_,?_⟩;(show B.den G _ dO=false;unfold dO;simp only[aZ,h0',Bool.true_and];rw[Bool.eq_false_iff];intro q;simp only[Bool.and_eq_true]at q;simp only[nn,List.cons_append,List.nil_append,Bool.or_eq_true,aP,ne_eq]at q;have q1:aK x2 x4 l2 x3.toNat≤524288∧aK x2 x4 l2 x3.toNat≤8*x7:=q;omega);(simp only[aI];exact⟨iH h0' key.1,trivial⟩)
  refine aH aP9 ?_
  unfold bZ at h0;unfold cD at h1;unfold cH at h2;unfold cJ at h3;unfold cK at h4;unfold cL at h5;unfold cS at h6;unfold kN at h7;unfold kO at h8;unfold mL at h9;replace h0:B.den G (cR ([x0,x1,x2,x3,x4,x5,x6,x7]++[l0,l1,l2,l3,l4,l5])) bV=true:=h0;obtain⟨⟨t0,t1,t2,t3,t4⟩,⟨e0,e1,e2,e3,e4⟩,⟨f0,f1,f2,f3,f4⟩,⟨g1,g2,g3,g4⟩,w1,w2,w3,w4⟩:=bF h0;simp only[bK];refine⟨?_,trivial⟩;show B.den G _ dO=true;unfold dO;simp only[aZ,h0,Bool.true_and,Bool.and_eq_true];clear h0;simp only[nn,List.cons_append,List.nil_append,Bool.or_eq_true,aP,ne_eq]at h1 h2 h3 h4 h5 h6 h7 h8 h9;(try simp (disch:=omega) only[w1,w2,w3,w4]at h1 h2 h3 h4 h5 h6 h7 h8 h9);(try simp (disch:=omega) only[Int.tdiv_eq_ediv_of_nonneg]at *);simp only[nn,List.cons_append,List.nil_append,Bool.or_eq_true,aP,ne_eq];show aK x2 x4 l2 x3.toNat≤524288∧aK x2 x4 l2 x3.toNat≤8*x7;generalize aK x2 x4 l2 x3.toNat=a at *;generalize aK x2 x4 l2 0=a0 at *;generalize aK x2 x4 l2 1=a1 at *;generalize aK x2 x4 l2 2=a2 at *;generalize aK x2 x4 l2 3=a3 at *;generalize aK x2 x4 l2 4=a4 at *;generalize G 83 [l2,0,0]=c0 at *;generalize G 83 [l2,1,0]=c1 at *;generalize G 83 [l2,2,0]=c2 at *;generalize G 83 [l2,3,0]=c3 at *;omega
 refine aG cO (fun h7=>?_) (fun h7=>?_)
 ·skip
  refine aG gW (fun h8=>?_) (fun h8=>?_)
  rotate_left
  ·skip
   refine aQ ?_
   unfold bZ at h0;unfold cD at h1;unfold cH at h2;unfold cJ at h3;unfold cK at h4;unfold cL at h5;unfold cS at h6;unfold cO at h7;unfold gW at h8;replace h0:B.den G (cR ([x0,x1,x2,x3,x4,x5,x6,x7]++[l0,l1,l2,l3,l4,l5])) bV=true:=h0;obtain⟨⟨t0,t1,t2,t3,t4⟩,⟨e0,e1,e2,e3,e4⟩,⟨f0,f1,f2,f3,f4⟩,⟨g1,g2,g3,g4⟩,w1,w2,w3,w4⟩:=bF h0;exfalso;clear h0;simp only[nn,List.cons_append,List.nil_append,Bool.or_eq_true,aP,ne_eq]at h1 h2 h3 h4 h5 h6 h7 h8;(try simp (disch:=omega) only[w1,w2,w3,w4]at h1 h2 h3 h4 h5 h6 h7 h8);generalize aK x2 x4 l2 x3.toNat=a at *;generalize aK x2 x4 l2 0=a0 at *;generalize aK x2 x4 l2 1=a1 at *;generalize aK x2 x4 l2 2=a2 at *;generalize aK x2 x4 l2 3=a3 at *;generalize aK x2 x4 l2 4=a4 at *;generalize G 83 [l2,0,0]=c0 at *;generalize G 83 [l2,1,0]=c1 at *;generalize G 83 [l2,2,0]=c2 at *;generalize G 83 [l2,3,0]=c3 at *;omega
  refine aG gV (fun h9=>?_) (fun h9=>?_)
  ·skip
   refine aH aQU ?_
   unfold bZ at h0;unfold cD at h1;unfold cH at h2;unfold cJ at h3;unfold cK at h4;unfold cL at h5;unfold cS at h6;unfold cO at h7;unfold gW at h8;unfold gV at h9;replace h0:B.den G (cR ([x0,x1,x2,x3,x4,x5,x6,x7]++[l0,l1,l2,l3,l4,l5])) bV=true:=h0;obtain⟨⟨t0,t1,t2,t3,t4⟩,⟨e0,e1,e2,e3,e4⟩,⟨f0,f1,f2,f3,f4⟩,⟨g1,g2,g3,g4⟩,w1,w2,w3,w4⟩:=bF h0;have h0':=h0;clear h0;simp only[nn,List.cons_append,List.nil_append,Bool.or_eq_true,aP,ne_eq]at h1 h2 h3 h4 h5 h6 h7 h8 h9;(try simp (disch:=omega) only[w1,w2,w3,w4]at h1 h2 h3 h4 h5 h6 h7 h8 h9);(try simp (disch:=omega) only[Int.tdiv_eq_ediv_of_nonneg]at *);simp only[bK];have key:524288<aK x2 x4 l2 x3.toNat:=(by generalize aK x2 x4 l2 x3.toNat=a at *;generalize aK x2 x4 l2 0=a0 at *;generalize aK x2 x4 l2 1=a1 at *;generalize aK x2 x4 l2 2=a2 at *;generalize aK x2 x4 l2 3=a3 at *;generalize aK x2 x4 l2 4=a4 at *;generalize G 83 [l2,0,0]=c0 at *;generalize G 83 [l2,1,0]=c1 at *;generalize G 83 [l2,2,0]=c2 at *;generalize G 83 [l2,3,0]=c3 at *;omega);refine⟨?_,?_⟩;(show B.den G _ dO=false;unfold dO;simp only[aZ,h0',Bool.true_and];rw[Bool.eq_false_iff];intro q;simp only[Bool.and_eq_true]at q;simp only[nn,List.cons_append,List.nil_append,Bool.or_eq_true,aP,ne_eq]at q;have q1:aK x2 x4 l2 x3.toNat≤524288∧aK x2 x4 l2 x3.toNat≤8*x7:=q;omega);(simp only[aI];exact⟨mE h0' key,trivial⟩)
  refine aG jZ (fun h10=>?_) (fun h10=>?_)
  ·skip
   refine aH aP4 ?_
   unfold bZ at h0;unfold cD at h1;unfold cH at h2;unfold cJ at h3;unfold cK at h4;unfold cL at h5;unfold cS at h6;unfold cO at h7;unfold gW at h8;unfold gV at h9;unfold jZ at h10;replace h0:B.den G (cR ([x0,x1,x2,x3,x4,x5,x6,x7]++[l0,l1,l2,l3,l4,l5])) bV=true:=h0;obtain⟨⟨t0,t1,t2,t3,t4⟩,⟨e0,e1,e2,e3,e4⟩,⟨f0,f1,f2,f3,f4⟩,⟨g1,g2,g3,g4⟩,w1,w2,w3,w4⟩:=bF h0;have h0':=h0;clear h0;simp only[nn,List.cons_append,List.nil_append,Bool.or_eq_true,aP,ne_eq]at h1 h2 h3 h4 h5 h6 h7 h8 h9 h10;(try simp (disch:=omega) only[w1,w2,w3,w4]at h1 h2 h3 h4 h5 h6 h7 h8 h9 h10);(try simp (disch:=omega) only[Int.tdiv_eq_ediv_of_nonneg]at *);simp only[bK];have key:aK x2 x4 l2 x3.toNat≤524288∧8*x7<aK x2 x4 l2 x3.toNat:=(by generalize aK x2 x4 l2 x3.toNat=a at *;generalize aK x2 x4 l2 0=a0 at *;generalize aK x2 x4 l2 1=a1 at *;generalize aK x2 x4 l2 2=a2 at *;generalize aK x2 x4 l2 3=a3 at *;generalize aK x2 x4 l2 4=a4 at *;generalize G 83 [l2,0,0]=c0 at *;generalize G 83 [l2,1,0]=c1 at *;generalize G 83 [l2,2,0]=c2 at *;generalize G 83 [l2,3,0]=c3 at *;omega);refine⟨?_,?_⟩;(show B.den G _ dO=false;unfold dO;simp only[aZ,h0',Bool.true_and];rw[Bool.eq_false_iff];intro q;simp only[Bool.and_eq_true]at q;simp only[nn,List.cons_append,List.nil_append,Bool.or_eq_true,aP,ne_eq]at q;have q1:aK x2 x4 l2 x3.toNat≤524288∧aK x2 x4 l2 x3.toNat≤8*x7:=q;omega);(simp only[aI];exact⟨iH h0' key.1,trivial⟩)
  refine aH aQs ?_
  unfold bZ at h0;unfold cD at h1;unfold cH at h2;unfold cJ at h3;unfold cK at h4;unfold cL at h5;unfold cS at h6;unfold cO at h7;unfold gW at h8;unfold gV at h9;unfold jZ at h10;replace h0:B.den G (cR ([x0,x1,x2,x3,x4,x5,x6,x7]++[l0,l1,l2,l3,l4,l5])) bV=true:=h0;obtain⟨⟨t0,t1,t2,t3,t4⟩,⟨e0,e1,e2,e3,e4⟩,⟨f0,f1,f2,f3,f4⟩,⟨g1,g2,g3,g4⟩,w1,w2,w3,w4⟩:=bF h0;simp only[bK];refine⟨?_,trivial⟩;show B.den G _ dO=true;unfold dO;simp only[aZ,h0,Bool.true_and,Bool.and_eq_true];clear h0;simp only[nn,List.cons_append,List.nil_append,Bool.or_eq_true,aP,ne_eq]at h1 h2 h3 h4 h5 h6 h7 h8 h9 h10;(try simp (disch:=omega) only[w1,w2,w3,w4]at h1 h2 h3 h4 h5 h6 h7 h8 h9 h10);(try simp (disch:=omega) only[Int.tdiv_eq_ediv_of_nonneg]at *);simp only[nn,List.cons_append,List.nil_append,Bool.or_eq_true,aP,ne_eq];show aK x2 x4 l2 x3.toNat≤524288∧aK x2 x4 l2 x3.toNat≤8*x7;generalize aK x2 x4 l2 x3.toNat=a at *;generalize aK x2 x4 l2 0=a0 at *;generalize aK x2 x4 l2 1=a1 at *;generalize aK x2 x4 l2 2=a2 at *;generalize aK x2 x4 l2 3=a3 at *;generalize aK x2 x4 l2 4=a4 at *;generalize G 83 [l2,0,0]=c0 at *;generalize G 83 [l2,1,0]=c1 at *;generalize G 83 [l2,2,0]=c2 at *;generalize G 83 [l2,3,0]=c3 at *;omega
 refine aG cZ (fun h8=>?_) (fun h8=>?_)
 rotate_left
 ·skip
  refine aG gW (fun h9=>?_) (fun h9=>?_)
  rotate_left
  ·skip
   refine aQ ?_
   unfold bZ at h0;unfold cD at h1;unfold cH at h2;unfold cJ at h3;unfold cK at h4;unfold cL at h5;unfold cS at h6;unfold cO at h7;unfold cZ at h8;unfold gW at h9;replace h0:B.den G (cR ([x0,x1,x2,x3,x4,x5,x6,x7]++[l0,l1,l2,l3,l4,l5])) bV=true:=h0;obtain⟨⟨t0,t1,t2,t3,t4⟩,⟨e0,e1,e2,e3,e4⟩,⟨f0,f1,f2,f3,f4⟩,⟨g1,g2,g3,g4⟩,w1,w2,w3,w4⟩:=bF h0;exfalso;clear h0;simp only[nn,List.cons_append,List.nil_append,Bool.or_eq_true,aP,ne_eq]at h1 h2 h3 h4 h5 h6 h7 h8 h9;(try simp (disch:=omega) only[w1,w2,w3,w4]at h1 h2 h3 h4 h5 h6 h7 h8 h9);generalize aK x2 x4 l2 x3.toNat=a at *;generalize aK x2 x4 l2 0=a0 at *;generalize aK x2 x4 l2 1=a1 at *;generalize aK x2 x4 l2 2=a2 at *;generalize aK x2 x4 l2 3=a3 at *;generalize aK x2 x4 l2 4=a4 at *;generalize G 83 [l2,0,0]=c0 at *;generalize G 83 [l2,1,0]=c1 at *;generalize G 83 [l2,2,0]=c2 at *;generalize G 83 [l2,3,0]=c3 at *;omega
  refine aG gV (fun h10=>?_) (fun h10=>?_)
  ·skip
   refine aH aPy ?_
   unfold bZ at h0;unfold cD at h1;unfold cH at h2;unfold cJ at h3;unfold cK at h4;unfold cL at h5;unfold cS at h6;unfold cO at h7;unfold cZ at h8;unfold gW at h9;unfold gV at h10;replace h0:B.den G (cR ([x0,x1,x2,x3,x4,x5,x6,x7]++[l0,l1,l2,l3,l4,l5])) bV=true:=h0;obtain⟨⟨t0,t1,t2,t3,t4⟩,⟨e0,e1,e2,e3,e4⟩,⟨f0,f1,f2,f3,f4⟩,⟨g1,g2,g3,g4⟩,w1,w2,w3,w4⟩:=bF h0;have h0':=h0;clear h0;simp only[nn,List.cons_append,List.nil_append,Bool.or_eq_true,aP,ne_eq]at h1 h2 h3 h4 h5 h6 h7 h8 h9 h10;(try simp (disch:=omega) only[w1,w2,w3,w4]at h1 h2 h3 h4 h5 h6 h7 h8 h9 h10);(try simp (disch:=omega) only[Int.tdiv_eq_ediv_of_nonneg]at *);simp only[bK];have key:524288<aK x2 x4 l2 x3.toNat:=(by generalize aK x2 x4 l2 x3.toNat=a at *;generalize aK x2 x4 l2 0=a0 at *;generalize aK x2 x4 l2 1=a1 at *;generalize aK x2 x4 l2 2=a2 at *;generalize aK x2 x4 l2 3=a3 at *;generalize aK x2 x4 l2 4=a4 at *;generalize G 83 [l2,0,0]=c0 at *;generalize G 83 [l2,1,0]=c1 at *;generalize G 83 [l2,2,0]=c2 at *;generalize G 83 [l2,3,0]=c3 at *;omega);refine⟨?_,?_⟩;(show B.den G _ dO=false;unfold dO;simp only[aZ,h0',Bool.true_and];rw[Bool.eq_false_iff];intro q;simp only[Bool.and_eq_true]at q;simp only[nn,List.cons_append,List.nil_append,Bool.or_eq_true,aP,ne_eq]at q;have q1:aK x2 x4 l2 x3.toNat≤524288∧aK x2 x4 l2 x3.toNat≤8*x7:=q;omega);(simp only[aI];exact⟨mE h0' key,trivial⟩)
  refine aG jZ (fun h11=>?_) (fun h11=>?_)
  ·skip
   refine aH aRs ?_
   unfold bZ at h0;unfold cD at h1;unfold cH at h2;unfold cJ at h3;unfold cK at h4;unfold cL at h5;unfold cS at h6;unfold cO at h7;unfold cZ at h8;unfold gW at h9;unfold gV at h10;unfold jZ at h11;replace h0:B.den G (cR ([x0,x1,x2,x3,x4,x5,x6,x7]++[l0,l1,l2,l3,l4,l5])) bV=true:=h0;obtain⟨⟨t0,t1,t2,t3,t4⟩,⟨e0,e1,e2,e3,e4⟩,⟨f0,f1,f2,f3,f4⟩,⟨g1,g2,g3,g4⟩,w1,w2,w3,w4⟩:=bF h0;have h0':=h0;clear h0;simp only[nn,List.cons_append,List.nil_append,Bool.or_eq_true,aP,ne_eq]at h1 h2 h3 h4 h5 h6 h7 h8 h9 h10 h11;(try simp (disch:=omega) only[w1,w2,w3,w4]at h1 h2 h3 h4 h5 h6 h7 h8 h9 h10 h11);(try simp (disch:=omega) only[Int.tdiv_eq_ediv_of_nonneg]at *);simp only[bK];have key:aK x2 x4 l2 x3.toNat≤524288∧8*x7<aK x2 x4 l2 x3.toNat:=(by generalize aK x2 x4 l2 x3.toNat=a at *;generalize aK x2 x4 l2 0=a0 at *;generalize aK x2 x4 l2 1=a1 at *;generalize aK x2 x4 l2 2=a2 at *;generalize aK x2 x4 l2 3=a3 at *;generalize aK x2 x4 l2 4=a4 at *;generalize G 83 [l2,0,0]=c0 at *;generalize G 83 [l2,1,0]=c1 at *;generalize G 83 [l2,2,0]=c2 at *;generalize G 83 [l2,3,0]=c3 at *;omega);refine⟨?_,?_⟩;(show B.den G _ dO=false;unfold dO;simp only[aZ,h0',Bool.true_and];rw[Bool.eq_false_iff];intro q;simp only[Bool.and_eq_true]at q;simp only[nn,List.cons_append,List.nil_append,Bool.or_eq_true,aP,ne_eq]at q;have q1:aK x2 x4 l2 x3.toNat≤524288∧aK x2 x4 l2 x3.toNat≤8*x7:=q;omega);(simp only[aI];exact⟨iH h0' key.1,trivial⟩)
  refine aH aRW ?_
  unfold bZ at h0;unfold cD at h1;unfold cH at h2;unfold cJ at h3;unfold cK at h4;unfold cL at h5;unfold cS at h6;unfold cO at h7;unfold cZ at h8;unfold gW at h9;unfold gV at h10;unfold jZ at h11;replace h0:B.den G (cR ([x0,x1,x2,x3,x4,x5,x6,x7]++[l0,l1,l2,l3,l4,l5])) bV=true:=h0;obtain⟨⟨t0,t1,t2,t3,t4⟩,⟨e0,e1,e2,e3,e4⟩,⟨f0,f1,f2,f3,f4⟩,⟨g1,g2,g3,g4⟩,w1,w2,w3,w4⟩:=bF h0;simp only[bK];refine⟨?_,trivial⟩;show B.den G _ dO=true;unfold dO;simp only[aZ,h0,Bool.true_and,Bool.and_eq_true];clear h0;simp only[nn,List.cons_append,List.nil_append,Bool.or_eq_true,aP,ne_eq]at h1 h2 h3 h4 h5 h6 h7 h8 h9 h10 h11;(try simp (disch:=omega) only[w1,w2,w3,w4]at h1 h2 h3 h4 h5 h6 h7 h8 h9 h10 h11);(try simp (disch:=omega) only[Int.tdiv_eq_ediv_of_nonneg]at *);simp only[nn,List.cons_append,List.nil_append,Bool.or_eq_true,aP,ne_eq];show aK x2 x4 l2 x3.toNat≤524288∧aK x2 x4 l2 x3.toNat≤8*x7;generalize aK x2 x4 l2 x3.toNat=a at *;generalize aK x2 x4 l2 0=a0 at *;generalize aK x2 x4 l2 1=a1 at *;generalize aK x2 x4 l2 2=a2 at *;generalize aK x2 x4 l2 3=a3 at *;generalize aK x2 x4 l2 4=a4 at *;generalize G 83 [l2,0,0]=c0 at *;generalize G 83 [l2,1,0]=c1 at *;generalize G 83 [l2,2,0]=c2 at *;generalize G 83 [l2,3,0]=c3 at *;omega
 refine aG dS (fun h9=>?_) (fun h9=>?_)
 ·skip
  refine aG gS (fun h10=>?_) (fun h10=>?_)
  rotate_left
  ·skip
   refine aQ ?_
   unfold bZ at h0;unfold cD at h1;unfold cH at h2;unfold cJ at h3;unfold cK at h4;unfold cL at h5;unfold cS at h6;unfold cO at h7;unfold cZ at h8;unfold dS at h9;unfold gS at h10;replace h0:B.den G (cR ([x0,x1,x2,x3,x4,x5,x6,x7]++[l0,l1,l2,l3,l4,l5])) bV=true:=h0;obtain⟨⟨t0,t1,t2,t3,t4⟩,⟨e0,e1,e2,e3,e4⟩,⟨f0,f1,f2,f3,f4⟩,⟨g1,g2,g3,g4⟩,w1,w2,w3,w4⟩:=bF h0;exfalso;clear h0;simp only[nn,List.cons_append,List.nil_append,Bool.or_eq_true,aP,ne_eq]at h1 h2 h3 h4 h5 h6 h7 h8 h9 h10;(try simp (disch:=omega) only[w1,w2,w3,w4]at h1 h2 h3 h4 h5 h6 h7 h8 h9 h10);generalize aK x2 x4 l2 x3.toNat=a at *;generalize aK x2 x4 l2 0=a0 at *;generalize aK x2 x4 l2 1=a1 at *;generalize aK x2 x4 l2 2=a2 at *;generalize aK x2 x4 l2 3=a3 at *;generalize aK x2 x4 l2 4=a4 at *;generalize G 83 [l2,0,0]=c0 at *;generalize G 83 [l2,1,0]=c1 at *;generalize G 83 [l2,2,0]=c2 at *;generalize G 83 [l2,3,0]=c3 at *;omega
  refine aG gO (fun h11=>?_) (fun h11=>?_)
  ·skip
   refine aH aPp ?_
   unfold bZ at h0;unfold cD at h1;unfold cH at h2;unfold cJ at h3;unfold cK at h4;unfold cL at h5;unfold cS at h6;unfold cO at h7;unfold cZ at h8;unfold dS at h9;unfold gS at h10;unfold gO at h11;replace h0:B.den G (cR ([x0,x1,x2,x3,x4,x5,x6,x7]++[l0,l1,l2,l3,l4,l5])) bV=true:=h0;obtain⟨⟨t0,t1,t2,t3,t4⟩,⟨e0,e1,e2,e3,e4⟩,⟨f0,f1,f2,f3,f4⟩,⟨g1,g2,g3,g4⟩,w1,w2,w3,w4⟩:=bF h0;have h0':=h0;clear h0;simp only[nn,List.cons_append,List.nil_append,Bool.or_eq_true,aP,ne_eq]at h1 h2 h3 h4 h5 h6 h7 h8 h9 h10 h11;(try simp (disch:=omega) only[w1,w2,w3,w4]at h1 h2 h3 h4 h5 h6 h7 h8 h9 h10 h11);(try simp (disch:=omega) only[Int.tdiv_eq_ediv_of_nonneg]at *);simp only[bK];have key:524288<aK x2 x4 l2 x3.toNat:=(by generalize aK x2 x4 l2 x3.toNat=a at *;generalize aK x2 x4 l2 0=a0 at *;generalize aK x2 x4 l2 1=a1 at *;generalize aK x2 x4 l2 2=a2 at *;generalize aK x2 x4 l2 3=a3 at *;generalize aK x2 x4 l2 4=a4 at *;generalize G 83 [l2,0,0]=c0 at *;generalize G 83 [l2,1,0]=c1 at *;generalize G 83 [l2,2,0]=c2 at *;generalize G 83 [l2,3,0]=c3 at *;omega);refine⟨?_,?_⟩;(show B.den G _ dO=false;unfold dO;simp only[aZ,h0',Bool.true_and];rw[Bool.eq_false_iff];intro q;simp only[Bool.and_eq_true]at q;simp only[nn,List.cons_append,List.nil_append,Bool.or_eq_true,aP,ne_eq]at q;have q1:aK x2 x4 l2 x3.toNat≤524288∧aK x2 x4 l2 x3.toNat≤8*x7:=q;omega);(simp only[aI];exact⟨mE h0' key,trivial⟩)
  refine aG kA (fun h12=>?_) (fun h12=>?_)
  ·skip
   refine aH aSB ?_
   unfold bZ at h0;unfold cD at h1;unfold cH at h2;unfold cJ at h3;unfold cK at h4;unfold cL at h5;unfold cS at h6;unfold cO at h7;unfold cZ at h8;unfold dS at h9;unfold gS at h10;unfold gO at h11;unfold kA at h12;replace h0:B.den G (cR ([x0,x1,x2,x3,x4,x5,x6,x7]++[l0,l1,l2,l3,l4,l5])) bV=true:=h0;obtain⟨⟨t0,t1,t2,t3,t4⟩,⟨e0,e1,e2,e3,e4⟩,⟨f0,f1,f2,f3,f4⟩,⟨g1,g2,g3,g4⟩,w1,w2,w3,w4⟩:=bF h0;have h0':=h0;clear h0;simp only[nn,List.cons_append,List.nil_append,Bool.or_eq_true,aP,ne_eq]at h1 h2 h3 h4 h5 h6 h7 h8 h9 h10 h11 h12;(try simp (disch:=omega) only[w1,w2,w3,w4]at h1 h2 h3 h4 h5 h6 h7 h8 h9 h10 h11 h12);(try simp (disch:=omega) only[Int.tdiv_eq_ediv_of_nonneg]at *);simp only[bK];have key:aK x2 x4 l2 x3.toNat≤524288∧8*x7<aK x2 x4 l2 x3.toNat:=(by generalize aK x2 x4 l2 x3.toNat=a at *;generalize aK x2 x4 l2 0=a0 at *;generalize aK x2 x4 l2 1=a1 at *;generalize aK x2 x4 l2 2=a2 at *;generalize aK x2 x4 l2 3=a3 at *;generalize aK x2 x4 l2 4=a4 at *;generalize G 83 [l2,0,0]=c0 at *;generalize G 83 [l2,1,0]=c1 at *;generalize G 83 [l2,2,0]=c2 at *;generalize G 83 [l2,3,0]=c3 at *;omega);refine⟨?_,?_⟩;(show B.den G _ dO=false;unfold dO;simp only[aZ,h0',Bool.true_and];rw[Bool.eq_false_iff];intro q;simp only[Bool.and_eq_true]at q;simp only[nn,List.cons_append,List.nil_append,Bool.or_eq_true,aP,ne_eq]at q;have q1:aK x2 x4 l2 x3.toNat≤524288∧aK x2 x4 l2 x3.toNat≤8*x7:=q;omega);(simp only[aI];exact⟨iH h0' key.1,trivial⟩)
  refine aH aNz ?_
  unfold bZ at h0;unfold cD at h1;unfold cH at h2;unfold cJ at h3;unfold cK at h4;unfold cL at h5;unfold cS at h6;unfold cO at h7;unfold cZ at h8;unfold dS at h9;unfold gS at h10;unfold gO at h11;unfold kA at h12;replace h0:B.den G (cR ([x0,x1,x2,x3,x4,x5,x6,x7]++[l0,l1,l2,l3,l4,l5])) bV=true:=h0;obtain⟨⟨t0,t1,t2,t3,t4⟩,⟨e0,e1,e2,e3,e4⟩,⟨f0,f1,f2,f3,f4⟩,⟨g1,g2,g3,g4⟩,w1,w2,w3,w4⟩:=bF h0;simp only[bK];refine⟨?_,trivial⟩;show B.den G _ dO=true;unfold dO;simp only[aZ,h0,Bool.true_and,Bool.and_eq_true];clear h0;simp only[nn,List.cons_append,List.nil_append,Bool.or_eq_true,aP,ne_eq]at h1 h2 h3 h4 h5 h6 h7 h8 h9 h10 h11 h12;(try simp (disch:=omega) only[w1,w2,w3,w4]at h1 h2 h3 h4 h5 h6 h7 h8 h9 h10 h11 h12);(try simp (disch:=omega) only[Int.tdiv_eq_ediv_of_nonneg]at *);simp only[nn,List.cons_append,List.nil_append,Bool.or_eq_true,aP,ne_eq];show aK x2 x4 l2 x3.toNat≤524288∧aK x2 x4 l2 x3.toNat≤8*x7;generalize aK x2 x4 l2 x3.toNat=a at *;generalize aK x2 x4 l2 0=a0 at *;generalize aK x2 x4 l2 1=a1 at *;generalize aK x2 x4 l2 2=a2 at *;generalize aK x2 x4 l2 3=a3 at *;generalize aK x2 x4 l2 4=a4 at *;generalize G 83 [l2,0,0]=c0 at *;generalize G 83 [l2,1,0]=c1 at *;generalize G 83 [l2,2,0]=c2 at *;generalize G 83 [l2,3,0]=c3 at *;omega
 refine aG eZ (fun h10=>?_) (fun h10=>?_)
 rotate_left
 ·skip
  refine aG gS (fun h11=>?_) (fun h11=>?_)
  rotate_left
  ·skip
   refine aQ ?_
   unfold bZ at h0;unfold cD at h1;unfold cH at h2;unfold cJ at h3;unfold cK at h4;unfold cL at h5;unfold cS at h6;unfold cO at h7;unfold cZ at h8;unfold dS at h9;unfold eZ at h10;unfold gS at h11;replace h0:B.den G (cR ([x0,x1,x2,x3,x4,x5,x6,x7]++[l0,l1,l2,l3,l4,l5])) bV=true:=h0;obtain⟨⟨t0,t1,t2,t3,t4⟩,⟨e0,e1,e2,e3,e4⟩,⟨f0,f1,f2,f3,f4⟩,⟨g1,g2,g3,g4⟩,w1,w2,w3,w4⟩:=bF h0;exfalso;clear h0;simp only[nn,List.cons_append,List.nil_append,Bool.or_eq_true,aP,ne_eq]at h1 h2 h3 h4 h5 h6 h7 h8 h9 h10 h11;(try simp (disch:=omega) only[w1,w2,w3,w4]at h1 h2 h3 h4 h5 h6 h7 h8 h9 h10 h11);generalize aK x2 x4 l2 x3.toNat=a at *;generalize aK x2 x4 l2 0=a0 at *;generalize aK x2 x4 l2 1=a1 at *;generalize aK x2 x4 l2 2=a2 at *;generalize aK x2 x4 l2 3=a3 at *;generalize aK x2 x4 l2 4=a4 at *;generalize G 83 [l2,0,0]=c0 at *;generalize G 83 [l2,1,0]=c1 at *;generalize G 83 [l2,2,0]=c2 at *;generalize G 83 [l2,3,0]=c3 at *;omega
  refine aG gO (fun h12=>?_) (fun h12=>?_)
  ·skip
   refine aH aPx ?_
   unfold bZ at h0;unfold cD at h1;unfold cH at h2;unfold cJ at h3;unfold cK at h4;unfold cL at h5;unfold cS at h6;unfold cO at h7;unfold cZ at h8;unfold dS at h9;unfold eZ at h10;unfold gS at h11;unfold gO at h12;replace h0:B.den G (cR ([x0,x1,x2,x3,x4,x5,x6,x7]++[l0,l1,l2,l3,l4,l5])) bV=true:=h0;obtain⟨⟨t0,t1,t2,t3,t4⟩,⟨e0,e1,e2,e3,e4⟩,⟨f0,f1,f2,f3,f4⟩,⟨g1,g2,g3,g4⟩,w1,w2,w3,w4⟩:=bF h0;have h0':=h0;clear h0;simp only[nn,List.cons_append,List.nil_append,Bool.or_eq_true,aP,ne_eq]at h1 h2 h3 h4 h5 h6 h7 h8 h9 h10 h11 h12;(try simp (disch:=omega) only[w1,w2,w3,w4]at h1 h2 h3 h4 h5 h6 h7 h8 h9 h10 h11 h12);(try simp (disch:=omega) only[Int.tdiv_eq_ediv_of_nonneg]at *);simp only[bK];have key:524288<aK x2 x4 l2 x3.toNat:=(by generalize aK x2 x4 l2 x3.toNat=a at *;generalize aK x2 x4 l2 0=a0 at *;generalize aK x2 x4 l2 1=a1 at *;generalize aK x2 x4 l2 2=a2 at *;generalize aK x2 x4 l2 3=a3 at *;generalize aK x2 x4 l2 4=a4 at *;generalize G 83 [l2,0,0]=c0 at *;generalize G 83 [l2,1,0]=c1 at *;generalize G 83 [l2,2,0]=c2 at *;generalize G 83 [l2,3,0]=c3 at *;omega);refine⟨?_,?_⟩;(show B.den G _ dO=false;unfold dO;simp only[aZ,h0',Bool.true_and];rw[Bool.eq_false_iff];intro q;simp only[Bool.and_eq_true]at q;simp only[nn,List.cons_append,List.nil_append,Bool.or_eq_true,aP,ne_eq]at q;have q1:aK x2 x4 l2 x3.toNat≤524288∧aK x2 x4 l2 x3.toNat≤8*x7:=q;omega);(simp only[aI];exact⟨mE h0' key,trivial⟩)
  refine aG kA (fun h13=>?_) (fun h13=>?_)
  ·skip
   refine aH aSS ?_
   unfold bZ at h0;unfold cD at h1;unfold cH at h2;unfold cJ at h3;unfold cK at h4;unfold cL at h5;unfold cS at h6;unfold cO at h7;unfold cZ at h8;unfold dS at h9;unfold eZ at h10;unfold gS at h11;unfold gO at h12;unfold kA at h13;replace h0:B.den G (cR ([x0,x1,x2,x3,x4,x5,x6,x7]++[l0,l1,l2,l3,l4,l5])) bV=true:=h0;obtain⟨⟨t0,t1,t2,t3,t4⟩,⟨e0,e1,e2,e3,e4⟩,⟨f0,f1,f2,f3,f4⟩,⟨g1,g2,g3,g4⟩,w1,w2,w3,w4⟩:=bF h0;have h0':=h0;clear h0;simp only[nn,List.cons_append,List.nil_append,Bool.or_eq_true,aP,ne_eq]at h1 h2 h3 h4 h5 h6 h7 h8 h9 h10 h11 h12 h13;(try simp (disch:=omega) only[w1,w2,w3,w4]at h1 h2 h3 h4 h5 h6 h7 h8 h9 h10 h11 h12 h13);(try simp (disch:=omega) only[Int.tdiv_eq_ediv_of_nonneg]at *);simp only[bK];have key:aK x2 x4 l2 x3.toNat≤524288∧8*x7<aK x2 x4 l2 x3.toNat:=(by generalize aK x2 x4 l2 x3.toNat=a at *;generalize aK x2 x4 l2 0=a0 at *;generalize aK x2 x4 l2 1=a1 at *;generalize aK x2 x4 l2 2=a2 at *;generalize aK x2 x4 l2 3=a3 at *;generalize aK x2 x4 l2 4=a4 at *;generalize G 83 [l2,0,0]=c0 at *;generalize G 83 [l2,1,0]=c1 at *;generalize G 83 [l2,2,0]=c2 at *;generalize G 83 [l2,3,0]=c3 at *;omega);refine⟨?_,?_⟩;(show B.den G _ dO=false;unfold dO;simp only[aZ,h0',Bool.true_and];rw[Bool.eq_false_iff];intro q;simp only[Bool.and_eq_true]at q;simp only[nn,List.cons_append,List.nil_append,Bool.or_eq_true,aP,ne_eq]at q;have q1:aK x2 x4 l2 x3.toNat≤524288∧aK x2 x4 l2 x3.toNat≤8*x7:=q;omega);(simp only[aI];exact⟨iH h0' key.1,trivial⟩)
  refine aH aPG ?_
  unfold bZ at h0;unfold cD at h1;unfold cH at h2;unfold cJ at h3;unfold cK at h4;unfold cL at h5;unfold cS at h6;unfold cO at h7;unfold cZ at h8;unfold dS at h9;unfold eZ at h10;unfold gS at h11;unfold gO at h12;unfold kA at h13;replace h0:B.den G (cR ([x0,x1,x2,x3,x4,x5,x6,x7]++[l0,l1,l2,l3,l4,l5])) bV=true:=h0;obtain⟨⟨t0,t1,t2,t3,t4⟩,⟨e0,e1,e2,e3,e4⟩,⟨f0,f1,f2,f3,f4⟩,⟨g1,g2,g3,g4⟩,w1,w2,w3,w4⟩:=bF h0;simp only[bK];refine⟨?_,trivial⟩;show B.den G _ dO=true;unfold dO;simp only[aZ,h0,Bool.true_and,Bool.and_eq_true];clear h0;simp only[nn,List.cons_append,List.nil_append,Bool.or_eq_true,aP,ne_eq]at h1 h2 h3 h4 h5 h6 h7 h8 h9 h10 h11 h12 h13;(try simp (disch:=omega) only[w1,w2,w3,w4]at h1 h2 h3 h4 h5 h6 h7 h8 h9 h10 h11 h12 h13);(try simp (disch:=omega) only[Int.tdiv_eq_ediv_of_nonneg]at *);simp only[nn,List.cons_append,List.nil_append,Bool.or_eq_true,aP,ne_eq];show aK x2 x4 l2 x3.toNat≤524288∧aK x2 x4 l2 x3.toNat≤8*x7;generalize aK x2 x4 l2 x3.toNat=a at *;generalize aK x2 x4 l2 0=a0 at *;generalize aK x2 x4 l2 1=a1 at *;generalize aK x2 x4 l2 2=a2 at *;generalize aK x2 x4 l2 3=a3 at *;generalize aK x2 x4 l2 4=a4 at *;generalize G 83 [l2,0,0]=c0 at *;generalize G 83 [l2,1,0]=c1 at *;generalize G 83 [l2,2,0]=c2 at *;generalize G 83 [l2,3,0]=c3 at *;omega
 refine aG jB (fun h11=>?_) (fun h11=>?_)
 ·skip
  refine aG gX (fun h12=>?_) (fun h12=>?_)
  rotate_left
  ·skip
   refine aQ ?_
   unfold bZ at h0;unfold cD at h1;unfold cH at h2;unfold cJ at h3;unfold cK at h4;unfold cL at h5;unfold cS at h6;unfold cO at h7;unfold cZ at h8;unfold dS at h9;unfold eZ at h10;unfold jB at h11;unfold gX at h12;replace h0:B.den G (cR ([x0,x1,x2,x3,x4,x5,x6,x7]++[l0,l1,l2,l3,l4,l5])) bV=true:=h0;obtain⟨⟨t0,t1,t2,t3,t4⟩,⟨e0,e1,e2,e3,e4⟩,⟨f0,f1,f2,f3,f4⟩,⟨g1,g2,g3,g4⟩,w1,w2,w3,w4⟩:=bF h0;exfalso;clear h0;simp only[nn,List.cons_append,List.nil_append,Bool.or_eq_true,aP,ne_eq]at h1 h2 h3 h4 h5 h6 h7 h8 h9 h10 h11 h12;(try simp (disch:=omega) only[w1,w2,w3,w4]at h1 h2 h3 h4 h5 h6 h7 h8 h9 h10 h11 h12);generalize aK x2 x4 l2 x3.toNat=a at *;generalize aK x2 x4 l2 0=a0 at *;generalize aK x2 x4 l2 1=a1 at *;generalize aK x2 x4 l2 2=a2 at *;generalize aK x2 x4 l2 3=a3 at *;generalize aK x2 x4 l2 4=a4 at *;generalize G 83 [l2,0,0]=c0 at *;generalize G 83 [l2,1,0]=c1 at *;generalize G 83 [l2,2,0]=c2 at *;generalize G 83 [l2,3,0]=c3 at *;omega
  refine aG gT (fun h13=>?_) (fun h13=>?_)
  ·skip
   refine aH aRx ?_
   unfold bZ at h0;unfold cD at h1;unfold cH at h2;unfold cJ at h3;unfold cK at h4;unfold cL at h5;unfold cS at h6;unfold cO at h7;unfold cZ at h8;unfold dS at h9;unfold eZ at h10;unfold jB at h11;unfold gX at h12;unfold gT at h13;replace h0:B.den G (cR ([x0,x1,x2,x3,x4,x5,x6,x7]++[l0,l1,l2,l3,l4,l5])) bV=true:=h0;obtain⟨⟨t0,t1,t2,t3,t4⟩,⟨e0,e1,e2,e3,e4⟩,⟨f0,f1,f2,f3,f4⟩,⟨g1,g2,g3,g4⟩,w1,w2,w3,w4⟩:=bF h0;have h0':=h0;clear h0;simp only[nn,List.cons_append,List.nil_append,Bool.or_eq_true,aP,ne_eq]at h1 h2 h3 h4 h5 h6 h7 h8 h9 h10 h11 h12 h13;(try simp (disch:=omega) only[w1,w2,w3,w4]at h1 h2 h3 h4 h5 h6 h7 h8 h9 h10 h11 h12 h13);(try simp (disch:=omega) only[Int.tdiv_eq_ediv_of_nonneg]at *);simp only[bK];have key:524288<aK x2 x4 l2 x3.toNat:=(by generalize aK x2 x4 l2 x3.toNat=a at *;generalize aK x2 x4 l2 0=a0 at *;generalize aK x2 x4 l2 1=a1 at *;generalize aK x2 x4 l2 2=a2 at *;generalize aK x2 x4 l2 3=a3 at *;generalize aK x2 x4 l2 4=a4 at *;generalize G 83 [l2,0,0]=c0 at *;generalize G 83 [l2,1,0]=c1 at *;generalize G 83 [l2,2,0]=c2 at *;generalize G 83 [l2,3,0]=c3 at *;omega);refine⟨?_,?_⟩;(show B.den G _ dO=false;unfold dO;simp only[aZ,h0',Bool.true_and];rw[Bool.eq_false_iff];intro q;simp only[Bool.and_eq_true]at q;simp only[nn,List.cons_append,List.nil_append,Bool.or_eq_true,aP,ne_eq]at q;have q1:aK x2 x4 l2 x3.toNat≤524288∧aK x2 x4 l2 x3.toNat≤8*x7:=q;omega);(simp only[aI];exact⟨mE h0' key,trivial⟩)
  refine aG jV (fun h14=>?_) (fun h14=>?_)
  ·skip
   refine aH aOX ?_
   unfold bZ at h0;unfold cD at h1;unfold cH at h2;unfold cJ at h3;unfold cK at h4;unfold cL at h5;unfold cS at h6;unfold cO at h7;unfold cZ at h8;unfold dS at h9;unfold eZ at h10;unfold jB at h11;unfold gX at h12;unfold gT at h13;unfold jV at h14;replace h0:B.den G (cR ([x0,x1,x2,x3,x4,x5,x6,x7]++[l0,l1,l2,l3,l4,l5])) bV=true:=h0;obtain⟨⟨t0,t1,t2,t3,t4⟩,⟨e0,e1,e2,e3,e4⟩,⟨f0,f1,f2,f3,f4⟩,⟨g1,g2,g3,g4⟩,w1,w2,w3,w4⟩:=bF h0;have h0':=h0;clear h0;simp only[nn,List.cons_append,List.nil_append,Bool.or_eq_true,aP,ne_eq]at h1 h2 h3 h4 h5 h6 h7 h8 h9 h10 h11 h12 h13 h14;(try simp (disch:=omega) only[w1,w2,w3,w4]at h1 h2 h3 h4 h5 h6 h7 h8 h9 h10 h11 h12 h13 h14);(try simp (disch:=omega) only[Int.tdiv_eq_ediv_of_nonneg]at *);simp only[bK];have key:aK x2 x4 l2 x3.toNat≤524288∧8*x7<aK x2 x4 l2 x3.toNat:=(by generalize aK x2 x4 l2 x3.toNat=a at *;generalize aK x2 x4 l2 0=a0 at *;generalize aK x2 x4 l2 1=a1 at *;generalize aK x2 x4 l2 2=a2 at *;generalize aK x2 x4 l2 3=a3 at *;generalize aK x2 x4 l2 4=a4 at *;generalize G 83 [l2,0,0]=c0 at *;generalize G 83 [l2,1,0]=c1 at *;generalize G 83 [l2,2,0]=c2 at *;generalize G 83 [l2,3,0]=c3 at *;omega);refine⟨?_,?_⟩;(show B.den G _ dO=false;unfold dO;simp only[aZ,h0',Bool.true_and];rw[Bool.eq_false_iff];intro q;simp only[Bool.and_eq_true]at q;simp only[nn,List.cons_append,List.nil_append,Bool.or_eq_true,aP,ne_eq]at q;have q1:aK x2 x4 l2 x3.toNat≤524288∧aK x2 x4 l2 x3.toNat≤8*x7:=q;omega);(simp only[aI];exact⟨iH h0' key.1,trivial⟩)
  refine aH aPz ?_
  unfold bZ at h0;unfold cD at h1;unfold cH at h2;unfold cJ at h3;unfold cK at h4;unfold cL at h5;unfold cS at h6;unfold cO at h7;unfold cZ at h8;unfold dS at h9;unfold eZ at h10;unfold jB at h11;unfold gX at h12;unfold gT at h13;unfold jV at h14;replace h0:B.den G (cR ([x0,x1,x2,x3,x4,x5,x6,x7]++[l0,l1,l2,l3,l4,l5])) bV=true:=h0;obtain⟨⟨t0,t1,t2,t3,t4⟩,⟨e0,e1,e2,e3,e4⟩,⟨f0,f1,f2,f3,f4⟩,⟨g1,g2,g3,g4⟩,w1,w2,w3,w4⟩:=bF h0;simp only[bK];refine⟨?_,trivial⟩;show B.den G _ dO=true;unfold dO;simp only[aZ,h0,Bool.true_and,Bool.and_eq_true];clear h0;simp only[nn,List.cons_append,List.nil_append,Bool.or_eq_true,aP,ne_eq]at h1 h2 h3 h4 h5 h6 h7 h8 h9 h10 h11 h12 h13 h14;(try simp (disch:=omega) only[w1,w2,w3,w4]at h1 h2 h3 h4 h5 h6 h7 h8 h9 h10 h11 h12 h13 h14);(try simp (disch:=omega) only[Int.tdiv_eq_ediv_of_nonneg]at *);simp only[nn,List.cons_append,List.nil_append,Bool.or_eq_true,aP,ne_eq];show aK x2 x4 l2 x3.toNat≤524288∧aK x2 x4 l2 x3.toNat≤8*x7;generalize aK x2 x4 l2 x3.toNat=a at *;generalize aK x2 x4 l2 0=a0 at *;generalize aK x2 x4 l2 1=a1 at *;generalize aK x2 x4 l2 2=a2 at *;generalize aK x2 x4 l2 3=a3 at *;generalize aK x2 x4 l2 4=a4 at *;generalize G 83 [l2,0,0]=c0 at *;generalize G 83 [l2,1,0]=c1 at *;generalize G 83 [l2,2,0]=c2 at *;generalize G 83 [l2,3,0]=c3 at *;omega
 refine aG gX (fun h12=>?_) (fun h12=>?_)
 rotate_left
 ·skip
  refine aQ ?_
  unfold bZ at h0;unfold cD at h1;unfold cH at h2;unfold cJ at h3;unfold cK at h4;unfold cL at h5;unfold cS at h6;unfold cO at h7;unfold cZ at h8;unfold dS at h9;unfold eZ at h10;unfold jB at h11;unfold gX at h12;replace h0:B.den G (cR ([x0,x1,x2,x3,x4,x5,x6,x7]++[l0,l1,l2,l3,l4,l5])) bV=true:=h0;obtain⟨⟨t0,t1,t2,t3,t4⟩,⟨e0,e1,e2,e3,e4⟩,⟨f0,f1,f2,f3,f4⟩,⟨g1,g2,g3,g4⟩,w1,w2,w3,w4⟩:=bF h0;exfalso;clear h0;simp only[nn,List.cons_append,List.nil_append,Bool.or_eq_true,aP,ne_eq]at h1 h2 h3 h4 h5 h6 h7 h8 h9 h10 h11 h12;(try simp (disch:=omega) only[w1,w2,w3,w4]at h1 h2 h3 h4 h5 h6 h7 h8 h9 h10 h11 h12);generalize aK x2 x4 l2 x3.toNat=a at *;generalize aK x2 x4 l2 0=a0 at *;generalize aK x2 x4 l2 1=a1 at *;generalize aK x2 x4 l2 2=a2 at *;generalize aK x2 x4 l2 3=a3 at *;generalize aK x2 x4 l2 4=a4 at *;generalize G 83 [l2,0,0]=c0 at *;generalize G 83 [l2,1,0]=c1 at *;generalize G 83 [l2,2,0]=c2 at *;generalize G 83 [l2,3,0]=c3 at *;omega
 refine aG gT (fun h13=>?_) (fun h13=>?_)
 ·skip
  refine aH aOy ?_
  unfold bZ at h0;unfold cD at h1;unfold cH at h2;unfold cJ at h3;unfold cK at h4;unfold cL at h5;unfold cS at h6;unfold cO at h7;unfold cZ at h8;unfold dS at h9;unfold eZ at h10;unfold jB at h11;unfold gX at h12;unfold gT at h13;replace h0:B.den G (cR ([x0,x1,x2,x3,x4,x5,x6,x7]++[l0,l1,l2,l3,l4,l5])) bV=true:=h0;obtain⟨⟨t0,t1,t2,t3,t4⟩,⟨e0,e1,e2,e3,e4⟩,⟨f0,f1,f2,f3,f4⟩,⟨g1,g2,g3,g4⟩,w1,w2,w3,w4⟩:=bF h0;have h0':=h0;clear h0;simp only[nn,List.cons_append,List.nil_append,Bool.or_eq_true,aP,ne_eq]at h1 h2 h3 h4 h5 h6 h7 h8 h9 h10 h11 h12 h13;(try simp (disch:=omega) only[w1,w2,w3,w4]at h1 h2 h3 h4 h5 h6 h7 h8 h9 h10 h11 h12 h13);(try simp (disch:=omega) only[Int.tdiv_eq_ediv_of_nonneg]at *);simp only[bK];have key:524288<aK x2 x4 l2 x3.toNat:=(by generalize aK x2 x4 l2 x3.toNat=a at *;generalize aK x2 x4 l2 0=a0 at *;generalize aK x2 x4 l2 1=a1 at *;generalize aK x2 x4 l2 2=a2 at *;generalize aK x2 x4 l2 3=a3 at *;generalize aK x2 x4 l2 4=a4 at *;generalize G 83 [l2,0,0]=c0 at *;generalize G 83 [l2,1,0]=c1 at *;generalize G 83 [l2,2,0]=c2 at *;generalize G 83 [l2,3,0]=c3 at *;omega);refine⟨?_,?_⟩;(show B.den G _ dO=false;unfold dO;simp only[aZ,h0',Bool.true_and];rw[Bool.eq_false_iff];intro q;simp only[Bool.and_eq_true]at q;simp only[nn,List.cons_append,List.nil_append,Bool.or_eq_true,aP,ne_eq]at q;have q1:aK x2 x4 l2 x3.toNat≤524288∧aK x2 x4 l2 x3.toNat≤8*x7:=q;omega);(simp only[aI];exact⟨mE h0' key,trivial⟩)
 refine aG jV (fun h14=>?_) (fun h14=>?_)
 ·skip
  refine aH aSa ?_
  unfold bZ at h0;unfold cD at h1;unfold cH at h2;unfold cJ at h3;unfold cK at h4;unfold cL at h5;unfold cS at h6;unfold cO at h7;unfold cZ at h8;unfold dS at h9;unfold eZ at h10;unfold jB at h11;unfold gX at h12;unfold gT at h13;unfold jV at h14;replace h0:B.den G (cR ([x0,x1,x2,x3,x4,x5,x6,x7]++[l0,l1,l2,l3,l4,l5])) bV=true:=h0;obtain⟨⟨t0,t1,t2,t3,t4⟩,⟨e0,e1,e2,e3,e4⟩,⟨f0,f1,f2,f3,f4⟩,⟨g1,g2,g3,g4⟩,w1,w2,w3,w4⟩:=bF h0;have h0':=h0;clear h0;simp only[nn,List.cons_append,List.nil_append,Bool.or_eq_true,aP,ne_eq]at h1 h2 h3 h4 h5 h6 h7 h8 h9 h10 h11 h12 h13 h14;(try simp (disch:=omega) only[w1,w2,w3,w4]at h1 h2 h3 h4 h5 h6 h7 h8 h9 h10 h11 h12 h13 h14);(try simp (disch:=omega) only[Int.tdiv_eq_ediv_of_nonneg]at *);simp only[bK];have key:aK x2 x4 l2 x3.toNat≤524288∧8*x7<aK x2 x4 l2 x3.toNat:=(by generalize aK x2 x4 l2 x3.toNat=a at *;generalize aK x2 x4 l2 0=a0 at *;generalize aK x2 x4 l2 1=a1 at *;generalize aK x2 x4 l2 2=a2 at *;generalize aK x2 x4 l2 3=a3 at *;generalize aK x2 x4 l2 4=a4 at *;generalize G 83 [l2,0,0]=c0 at *;generalize G 83 [l2,1,0]=c1 at *;generalize G 83 [l2,2,0]=c2 at *;generalize G 83 [l2,3,0]=c3 at *;omega);refine⟨?_,?_⟩;(show B.den G _ dO=false;unfold dO;simp only[aZ,h0',Bool.true_and];rw[Bool.eq_false_iff];intro q;simp only[Bool.and_eq_true]at q;simp only[nn,List.cons_append,List.nil_append,Bool.or_eq_true,aP,ne_eq]at q;have q1:aK x2 x4 l2 x3.toNat≤524288∧aK x2 x4 l2 x3.toNat≤8*x7:=q;omega);(simp only[aI];exact⟨iH h0' key.1,trivial⟩)
 refine aH aO1 ?_
 unfold bZ at h0;unfold cD at h1;unfold cH at h2;unfold cJ at h3;unfold cK at h4;unfold cL at h5;unfold cS at h6;unfold cO at h7;unfold cZ at h8;unfold dS at h9;unfold eZ at h10;unfold jB at h11;unfold gX at h12;unfold gT at h13;unfold jV at h14;replace h0:B.den G (cR ([x0,x1,x2,x3,x4,x5,x6,x7]++[l0,l1,l2,l3,l4,l5])) bV=true:=h0;obtain⟨⟨t0,t1,t2,t3,t4⟩,⟨e0,e1,e2,e3,e4⟩,⟨f0,f1,f2,f3,f4⟩,⟨g1,g2,g3,g4⟩,w1,w2,w3,w4⟩:=bF h0;simp only[bK];refine⟨?_,trivial⟩;show B.den G _ dO=true;unfold dO;simp only[aZ,h0,Bool.true_and,Bool.and_eq_true];clear h0;simp only[nn,List.cons_append,List.nil_append,Bool.or_eq_true,aP,ne_eq]at h1 h2 h3 h4 h5 h6 h7 h8 h9 h10 h11 h12 h13 h14;(try simp (disch:=omega) only[w1,w2,w3,w4]at h1 h2 h3 h4 h5 h6 h7 h8 h9 h10 h11 h12 h13 h14);(try simp (disch:=omega) only[Int.tdiv_eq_ediv_of_nonneg]at *);simp only[nn,List.cons_append,List.nil_append,Bool.or_eq_true,aP,ne_eq];show aK x2 x4 l2 x3.toNat≤524288∧aK x2 x4 l2 x3.toNat≤8*x7;generalize aK x2 x4 l2 x3.toNat=a at *;generalize aK x2 x4 l2 0=a0 at *;generalize aK x2 x4 l2 1=a1 at *;generalize aK x2 x4 l2 2=a2 at *;generalize aK x2 x4 l2 3=a3 at *;generalize aK x2 x4 l2 4=a4 at *;generalize G 83 [l2,0,0]=c0 at *;generalize G 83 [l2,1,0]=c1 at *;generalize G 83 [l2,2,0]=c2 at *;generalize G 83 [l2,3,0]=c3 at *;omega
def aD2:Ctx→List SV→aM→Res (SV × aM):=dZ GB [(0,255),(0,8),(0,8),(0,8),((-9223372036854775808),9223372036854775807),(0,8),(0,8),(0,70000)] 6 (.lit true) aTF
theorem aWI {X:Ctx} {ρ:Nat→Int} (hX:X.Ok ρ) (hG:X.G=G):eU Try.prog X ρ GB 13 aD2:=by
 obtain⟨XG,XI,XV,XF⟩:=X
 simp only at hG
 subst hG
 refine cU hX ?_
 intro xs ls hw hl hp
 obtain⟨x0,y0,e0,b0,h0⟩:=aY hw
 obtain⟨x1,y1,e1,b1,h1⟩:=aY h0
 obtain⟨x2,y2,e2,b2,h2⟩:=aY h1
 obtain⟨x3,y3,e3,b3,h3⟩:=aY h2
 obtain⟨x4,y4,e4,b4,h4⟩:=aY h3
 obtain⟨x5,y5,e5,b5,h5⟩:=aY h4
 obtain⟨x6,y6,e6,b6,h6⟩:=aY h5
 obtain⟨x7,y7,e7,b7,h7⟩:=aY h6
 have e8:=jS h7
 subst e8 e7 e6 e5 e4 e3 e2 e1 e0
 obtain⟨l0,z0,q0,hl0⟩:=bJ hl
 obtain⟨l1,z1,q1,hl1⟩:=bJ hl0
 obtain⟨l2,z2,q2,hl2⟩:=bJ hl1
 obtain⟨l3,z3,q3,hl3⟩:=bJ hl2
 obtain⟨l4,z4,q4,hl4⟩:=bJ hl3
 obtain⟨l5,z5,q5,hl5⟩:=bJ hl4
 have q6:=List.length_eq_zero_iff.1 hl5
 subst q6 q5 q4 q3 q2 q1 q0
 exact aVP x0 x1 x2 x3 x4 x5 x6 x7 l0 l1 l2 l3 l4 l5 b0 b1 b2 b3 b4 b5 b6 b7
def aTg:bA:=fT 13 aD2 aKn
theorem aJ3 {X:Ctx} {ρ:Nat→Int} (hX:X.Ok ρ) (hG:X.G=G):fF Try.prog X ρ GB aTg:=dM (aWI hX hG) (aDv hX hG)
theorem aBg (B i:Int):0≤G 84 [B,i,0]∧G 84 [B,i,0]<256:=by
 have:=iT .u8 (Lc.rd3 [B,i,0])
 have e:G 84 [B,i,0]=IntKind.u8.wrap (Lc.rd3 [B,i,0]):=rfl
 rw[e]
 have h1:IntKind.u8.min=0:=rfl
 have h2:IntKind.u8.max=255:=rfl
 omega
theorem aFL (c:Int) (hc:0≤c∧c<256):bT .or .u64 0 c=c:=by
 have:=aHq 0 c ⟨by decide,by decide⟩ hc
 simpa using this
theorem zA {B nB a n v:Int} {k:Nat} (ha:0≤a) (hn:1≤n∧n≤16) (hi:a≤8*nB-n) (hk:(a+n+7) / 8-a / 8=k) (hv:v=pR B (a / 8) k) (hb:0≤v∧v<4294967296):
  bT .and .u64 (Int.fdiv v (1*2 ^ (bT .and .i64 (0-(a+n)) 7).toNat)) (1*2 ^ n.toNat-1)=G 67 [B,nB,a,n]:=by
 rw[aPg,Int.one_mul]
 have p:(0:Int)<2 ^ ((0-(a+n)) % 8).toNat:=Int.pow_pos (by decide)
 rw[Int.fdiv_eq_ediv_of_nonneg _ (by omega)]
 have d0:=Int.ediv_nonneg hb.1 (show (0:Int)≤2 ^ ((0-(a+n)) % 8).toNat by omega)
 have d1:=Int.ediv_le_self (2 ^ ((0-(a+n)) % 8).toNat) hb.1
 rw[aRT _ n.toNat (by omega) ⟨d0,by omega⟩]
 show _=mS B nB a n
 unfold mS
 rw[if_neg (by omega),hk,Int.toNat_natCast,←hv]
 have q1:(2:Int) ^ n.toNat≤65536:=by
  have:2 ^ n.toNat≤2 ^ 16:=Nat.pow_le_pow_right (by decide) (by omega)
  have c:((2 ^ n.toNat:Nat):Int)=2 ^ n.toNat:=by rw[Int.natCast_pow];rfl
  omega
 have q0:(0:Int)<2 ^ n.toNat:=Int.pow_pos (by decide)
 generalize v / 2 ^ ((0-(a+n)) % 8).toNat=w at *
 have r0:=Int.emod_nonneg w (show (2:Int) ^ n.toNat≠0 by omega)
 have r1:=Int.emod_lt_of_pos w q0
 unfold gH
 omega
section
variable {B nB a n:Int}
theorem aWV (ha:0≤a) (hn:1≤n∧n≤16) (hi:a≤8*nB-n) (hk:Int.tdiv (a+n+8-1) 8-Int.tdiv a 8=1):
  bT .and .u64 (Int.fdiv (bT .or .u64 0 (G 84 [B,Int.tdiv a 8,0])) (1*2 ^ (bT .and .i64 (0-(a+n)) 7).toNat)) (1*2 ^ n.toNat-1)=G 67 [B,nB,a,n]:=by
 rw[Int.tdiv_eq_ediv_of_nonneg ha,Int.tdiv_eq_ediv_of_nonneg (by omega)]at hk
 rw[Int.tdiv_eq_ediv_of_nonneg ha]
 have b0:=aBg B (a / 8)
 rw[aFL _ b0]
 refine zA (k:=1) ha hn hi (by omega) ?_ ⟨b0.1,by omega⟩
 show _=0*256+r8 B (a / 8+0) 0
 rw[Int.add_zero,Int.zero_mul,Int.zero_add];rfl
theorem aWU (ha:0≤a) (hn:1≤n∧n≤16) (hi:a≤8*nB-n) (hk:Int.tdiv (a+n+8-1) 8-Int.tdiv a 8=2):
  bT .and .u64 (Int.fdiv (bT .or .u64 (IntKind.u64.wrap (bT .or .u64 0 (G 84 [B,Int.tdiv a 8,0])*256)) (G 84 [B,Int.tdiv a 8+1,0])) (1*2 ^ (bT .and .i64 (0-(a+n)) 7).toNat)) (1*2 ^ n.toNat-1)=G 67 [B,nB,a,n]:=by
 rw[Int.tdiv_eq_ediv_of_nonneg ha,Int.tdiv_eq_ediv_of_nonneg (by omega)]at hk
 rw[Int.tdiv_eq_ediv_of_nonneg ha]
 have b0:=aBg B (a / 8)
 have b1:=aBg B (a / 8+1)
 rw[aFL _ b0,IntKind.wrap_u64,Int.emod_eq_of_lt (by omega) (by omega),aHq _ _ ⟨b0.1,by omega⟩ b1]
 refine zA (k:=2) ha hn hi (by omega) ?_ ⟨by omega,by omega⟩
 show _=(0*256+r8 B (a / 8+0) 0)*256+r8 B (a / 8+1) 0
 rw[Int.add_zero,Int.zero_mul,Int.zero_add];rfl
theorem aWT (ha:0≤a) (hn:1≤n∧n≤16) (hi:a≤8*nB-n) (hk:Int.tdiv (a+n+8-1) 8-Int.tdiv a 8=3):
  bT .and .u64 (Int.fdiv (bT .or .u64 (IntKind.u64.wrap (bT .or .u64 (IntKind.u64.wrap (bT .or .u64 0 (G 84 [B,Int.tdiv a 8,0])*256)) (G 84 [B,Int.tdiv a 8+1,0])*256)) (G 84 [B,Int.tdiv a 8+2,0])) (1*2 ^ (bT .and .i64 (0-(a+n)) 7).toNat)) (1*2 ^ n.toNat-1)=G 67 [B,nB,a,n]:=by
 rw[Int.tdiv_eq_ediv_of_nonneg ha,Int.tdiv_eq_ediv_of_nonneg (by omega)]at hk
 rw[Int.tdiv_eq_ediv_of_nonneg ha]
 have b0:=aBg B (a / 8)
 have b1:=aBg B (a / 8+1)
 have b2:=aBg B (a / 8+2)
 have w1:IntKind.u64.wrap (G 84 [B,a / 8,0]*256)=G 84 [B,a / 8,0]*256:=by rw[IntKind.wrap_u64];exact Int.emod_eq_of_lt (by omega) (by omega)
 have w2:IntKind.u64.wrap ((G 84 [B,a / 8,0]*256+G 84 [B,a / 8+1,0])*256)=(G 84 [B,a / 8,0]*256+G 84 [B,a / 8+1,0])*256:=by rw[IntKind.wrap_u64];exact Int.emod_eq_of_lt (by omega) (by omega)
 rw[aFL _ b0,w1,aHq _ _ ⟨b0.1,by omega⟩ b1,w2,aHq _ _ ⟨by omega,by omega⟩ b2]
 refine zA (k:=3) ha hn hi (by omega) ?_ ⟨by omega,by omega⟩
 show _=((0*256+r8 B (a / 8+0) 0)*256+r8 B (a / 8+1) 0)*256+r8 B (a / 8+2) 0
 rw[Int.add_zero,Int.zero_mul,Int.zero_add];rfl
theorem aUg (h:8*nB-n<a):(0:Int)=G 67 [B,nB,a,n]∧(5:Int)=G 69 [nB,a,n]:=by
 refine⟨?_,?_⟩
 ·show _=mS B nB a n
  unfold mS
  rw[if_pos (.inr (.inr (.inr h)))]
 ·show _=if 8*nB-n<a then (5:Int) else 0
  rw[if_pos h]
theorem aDb (h:a≤8*nB-n):(0:Int)=G 69 [nB,a,n]:=by
 show _=if 8*nB-n<a then (5:Int) else 0
 rw[if_neg (by omega)]
end
end Go.Proofs.Ytdldallkeheciaa
