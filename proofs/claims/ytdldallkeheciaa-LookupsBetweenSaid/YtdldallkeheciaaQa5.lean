/- What is proved: what some functions leave,as it is told. No condition but the numbers' own bounds. -/
import Derived.Test.YtdldallkeheciaaQNn
import Derived.Test.YtdldallkeheciaaQa1
import Derived.Test.YtdldallkeheciaaQa4
set_option linter.unusedSimpArgs false
set_option linter.unusedVariables false
namespace Go.Proofs.Ytdldallkeheciaa
open Go Go.RowKit Sx Wi Lk
theorem bE {x0 x1 x2 x3 x4 x5 x6 x7 l0 l1 l2:Int} {ls:List Int} (h0:B.den G (dM ([x0,x1,x2,x3,x4,x5,x6,x7]++(l0::l1::l2::ls))) bQ=true):(x0=1∧(1≤x1∧x1≤4)∧(1≤x2∧x2≤4)∧x3=x1∧(x4=1∨x4=2∨x4=4∨x4=8∨x4=12∨x4=16))∧(aL x2 x4 l2 0=x2*x4∧aL x2 x4 l2 1=x2*x4*G 83 [l2,0,0]∧aL x2 x4 l2 2=x2*x4*G 83 [l2,0,0]*G 83 [l2,1,0]∧aL x2 x4 l2 3=x2*x4*G 83 [l2,0,0]*G 83 [l2,1,0]*G 83 [l2,2,0]∧aL x2 x4 l2 4=x2*x4*G 83 [l2,0,0]*G 83 [l2,1,0]*G 83 [l2,2,0]*G 83 [l2,3,0])∧(((0:Int)≤x3→1≤aL x2 x4 l2 0∧aL x2 x4 l2 0≤64∧aL x2 x4 l2 0≤aL x2 x4 l2 x3.toNat)∧((1:Int)≤x3→1≤aL x2 x4 l2 1∧aL x2 x4 l2 1≤64*256∧aL x2 x4 l2 1≤aL x2 x4 l2 x3.toNat)∧((2:Int)≤x3→1≤aL x2 x4 l2 2∧aL x2 x4 l2 2≤64*65536∧aL x2 x4 l2 2≤aL x2 x4 l2 x3.toNat)∧((3:Int)≤x3→1≤aL x2 x4 l2 3∧aL x2 x4 l2 3≤64*16777216∧aL x2 x4 l2 3≤aL x2 x4 l2 x3.toNat)∧((4:Int)≤x3→1≤aL x2 x4 l2 4∧aL x2 x4 l2 4≤64*4294967296∧aL x2 x4 l2 4≤aL x2 x4 l2 x3.toNat))∧((x3=1→aL x2 x4 l2 x3.toNat=aL x2 x4 l2 1)∧(x3=2→aL x2 x4 l2 x3.toNat=aL x2 x4 l2 2)∧(x3=3→aL x2 x4 l2 x3.toNat=aL x2 x4 l2 3)∧(x3=4→aL x2 x4 l2 x3.toNat=aL x2 x4 l2 4))∧((1:Int)≤x3→IntKind.i64.wrap (x2*x4*G 83 [l2,0,0])=x2*x4*G 83 [l2,0,0])∧((2:Int)≤x3→IntKind.i64.wrap (x2*x4*G 83 [l2,0,0]*G 83 [l2,1,0])=x2*x4*G 83 [l2,0,0]*G 83 [l2,1,0])∧((3:Int)≤x3→IntKind.i64.wrap (x2*x4*G 83 [l2,0,0]*G 83 [l2,1,0]*G 83 [l2,2,0])=x2*x4*G 83 [l2,0,0]*G 83 [l2,1,0]*G 83 [l2,2,0])∧((4:Int)≤x3→IntKind.i64.wrap (x2*x4*G 83 [l2,0,0]*G 83 [l2,1,0]*G 83 [l2,2,0]*G 83 [l2,3,0])=x2*x4*G 83 [l2,0,0]*G 83 [l2,1,0]*G 83 [l2,2,0]*G 83 [l2,3,0]):=by
 have tb:=dT h0
 obtain⟨pb,pc⟩:=aHG tb
 obtain⟨t0,t1,_,t2,_,t3,_,t4,_⟩:=tb
 have f0:=pc 0
 have f1:=pc 1
 have f2:=pc 2
 have f3:=pc 3
 have f4:=pc 4
 have e0:aL x2 x4 l2 0=x2*x4:=rfl
 have e1:aL x2 x4 l2 1=x2*x4*G 83 [l2,0,0]:=rfl
 have e2:aL x2 x4 l2 2=x2*x4*G 83 [l2,0,0]*G 83 [l2,1,0]:=rfl
 have e3:aL x2 x4 l2 3=x2*x4*G 83 [l2,0,0]*G 83 [l2,1,0]*G 83 [l2,2,0]:=rfl
 have e4:aL x2 x4 l2 4=x2*x4*G 83 [l2,0,0]*G 83 [l2,1,0]*G 83 [l2,2,0]*G 83 [l2,3,0]:=rfl
 have en:∀ k:Nat,x3=k→aL x2 x4 l2 x3.toNat=aL x2 x4 l2 k:=(fun k q=>by rw[q];rfl)
 have g1:=en 1
 have g2:=en 2
 have g3:=en 3
 have g4:=en 4
 simp only[show (256:Int) ^ 0=1 from rfl,show (256:Int) ^ 1=256 from rfl,show (256:Int) ^ 2=65536 from rfl,show (256:Int) ^ 3=16777216 from rfl,show (256:Int) ^ 4=4294967296 from rfl,Int.cast_ofNat_Int,Int.natCast_zero,Int.natCast_one,Int.ofNat_zero]at f0 f1 f2 f3 f4 g1 g2 g3 g4
 refine⟨⟨t0,t1,t2,t3,t4⟩,⟨e0,e1,e2,e3,e4⟩,⟨f0,f1,f2,f3,f4⟩,⟨g1,g2,g3,g4⟩,?_,?_,?_,?_⟩
 ·intro q;have f:=f1 q;rw[←e1];exact iQ .i64 _ (show (-9223372036854775808:Int)≤_ by omega) (show _≤(9223372036854775807:Int)by omega)
 ·intro q;have f:=f2 q;rw[←e2];exact iQ .i64 _ (show (-9223372036854775808:Int)≤_ by omega) (show _≤(9223372036854775807:Int)by omega)
 ·intro q;have f:=f3 q;rw[←e3];exact iQ .i64 _ (show (-9223372036854775808:Int)≤_ by omega) (show _≤(9223372036854775807:Int)by omega)
 ·intro q;have f:=f4 q;rw[←e4];exact iQ .i64 _ (show (-9223372036854775808:Int)≤_ by omega) (show _≤(9223372036854775807:Int)by omega)
set_option maxHeartbeats 8000000 in
set_option maxRecDepth 100000 in
theorem aSA (x0 x1 x2 x3 x4 x5 x6 x7 l0 l1 l2 l3 l4 l5:Int) (b0:0≤x0∧x0≤255) (b1:0≤x1∧x1≤8) (b2:0≤x2∧x2≤8) (b3:0≤x3∧x3≤8) (b4:(-9223372036854775808)≤x4∧x4≤9223372036854775807) (b5:0≤x5∧x5≤8) (b6:0≤x6∧x6≤8) (b7:0≤x7∧x7≤70000):fX Try.prog G GB 13 aRT (dM ([x0,x1,x2,x3,x4,x5,x6,x7]++[l0,l1,l2,l3,l4,l5])):=by
 refine dB (lp:=eG) (run:=aH9 Try.prog) (fun _=>rfl) fits (cM (xs:=[x0,x1,x2,x3,x4,x5,x6,x7]) (ls:=[l0,l1,l2,l3,l4,l5]) (by exact⟨b0,b1,b2,b3,b4,b5,b6,b7,trivial⟩)) iJ (fun X hX hG=>aDj hX hG) (fun X hX hG fn c hf hc=>dD) rfl ?_
 refine aF bW (fun h0=>?_) (fun h0=>?_)
 rotate_left
 ·skip
  refine aH aOH ?_
  unfold bW at h0;replace h0:B.den G (dM ([x0,x1,x2,x3,x4,x5,x6,x7]++[l0,l1,l2,l3,l4,l5])) bQ=false:=h0;simp only[bI];refine⟨?_,?_⟩;(show B.den G _ dK=false;unfold dK;simp only[aT,h0,Bool.false_and]);(simp only[aJ];exact⟨aI5 h0,trivial⟩)
 refine aF cB (fun h1=>?_) (fun h1=>?_)
 rotate_left
 ·skip
  refine aU ?_
  unfold bW at h0;unfold cB at h1;replace h0:B.den G (dM ([x0,x1,x2,x3,x4,x5,x6,x7]++[l0,l1,l2,l3,l4,l5])) bQ=true:=h0;obtain⟨⟨t0,t1,t2,t3,t4⟩,⟨e0,e1,e2,e3,e4⟩,⟨f0,f1,f2,f3,f4⟩,⟨g1,g2,g3,g4⟩,w1,w2,w3,w4⟩:=bE h0;exfalso;clear h0;simp only[nn,List.cons_append,List.nil_append,Bool.or_eq_true,aR,ne_eq]at h1;(try simp (disch:=omega) only[w1,w2,w3,w4]at h1);generalize aL x2 x4 l2 x3.toNat=a at *;generalize aL x2 x4 l2 0=a0 at *;generalize aL x2 x4 l2 1=a1 at *;generalize aL x2 x4 l2 2=a2 at *;generalize aL x2 x4 l2 3=a3 at *;generalize aL x2 x4 l2 4=a4 at *;generalize G 83 [l2,0,0]=c0 at *;generalize G 83 [l2,1,0]=c1 at *;generalize G 83 [l2,2,0]=c2 at *;generalize G 83 [l2,3,0]=c3 at *;omega
 refine aF cE (fun h2=>?_) (fun h2=>?_)
 rotate_left
 ·skip
  refine aU ?_
  unfold bW at h0;unfold cB at h1;unfold cE at h2;replace h0:B.den G (dM ([x0,x1,x2,x3,x4,x5,x6,x7]++[l0,l1,l2,l3,l4,l5])) bQ=true:=h0;obtain⟨⟨t0,t1,t2,t3,t4⟩,⟨e0,e1,e2,e3,e4⟩,⟨f0,f1,f2,f3,f4⟩,⟨g1,g2,g3,g4⟩,w1,w2,w3,w4⟩:=bE h0;exfalso;clear h0;simp only[nn,List.cons_append,List.nil_append,Bool.or_eq_true,aR,ne_eq]at h1 h2;(try simp (disch:=omega) only[w1,w2,w3,w4]at h1 h2);generalize aL x2 x4 l2 x3.toNat=a at *;generalize aL x2 x4 l2 0=a0 at *;generalize aL x2 x4 l2 1=a1 at *;generalize aL x2 x4 l2 2=a2 at *;generalize aL x2 x4 l2 3=a3 at *;generalize aL x2 x4 l2 4=a4 at *;generalize G 83 [l2,0,0]=c0 at *;generalize G 83 [l2,1,0]=c1 at *;generalize G 83 [l2,2,0]=c2 at *;generalize G 83 [l2,3,0]=c3 at *;omega
 refine aF cG (fun h3=>?_) (fun h3=>?_)
 rotate_left
 ·skip
  refine aU ?_
  unfold bW at h0;unfold cB at h1;unfold cE at h2;unfold cG at h3;replace h0:B.den G (dM ([x0,x1,x2,x3,x4,x5,x6,x7]++[l0,l1,l2,l3,l4,l5])) bQ=true:=h0;obtain⟨⟨t0,t1,t2,t3,t4⟩,⟨e0,e1,e2,e3,e4⟩,⟨f0,f1,f2,f3,f4⟩,⟨g1,g2,g3,g4⟩,w1,w2,w3,w4⟩:=bE h0;exfalso;clear h0;simp only[nn,List.cons_append,List.nil_append,Bool.or_eq_true,aR,ne_eq]at h1 h2 h3;(try simp (disch:=omega) only[w1,w2,w3,w4]at h1 h2 h3);generalize aL x2 x4 l2 x3.toNat=a at *;generalize aL x2 x4 l2 0=a0 at *;generalize aL x2 x4 l2 1=a1 at *;generalize aL x2 x4 l2 2=a2 at *;generalize aL x2 x4 l2 3=a3 at *;generalize aL x2 x4 l2 4=a4 at *;generalize G 83 [l2,0,0]=c0 at *;generalize G 83 [l2,1,0]=c1 at *;generalize G 83 [l2,2,0]=c2 at *;generalize G 83 [l2,3,0]=c3 at *;omega
 refine aF cI (fun h4=>?_) (fun h4=>?_)
 rotate_left
 ·skip
  refine aU ?_
  unfold bW at h0;unfold cB at h1;unfold cE at h2;unfold cG at h3;unfold cI at h4;replace h0:B.den G (dM ([x0,x1,x2,x3,x4,x5,x6,x7]++[l0,l1,l2,l3,l4,l5])) bQ=true:=h0;obtain⟨⟨t0,t1,t2,t3,t4⟩,⟨e0,e1,e2,e3,e4⟩,⟨f0,f1,f2,f3,f4⟩,⟨g1,g2,g3,g4⟩,w1,w2,w3,w4⟩:=bE h0;exfalso;clear h0;simp only[nn,List.cons_append,List.nil_append,Bool.or_eq_true,aR,ne_eq]at h1 h2 h3 h4;(try simp (disch:=omega) only[w1,w2,w3,w4]at h1 h2 h3 h4);generalize aL x2 x4 l2 x3.toNat=a at *;generalize aL x2 x4 l2 0=a0 at *;generalize aL x2 x4 l2 1=a1 at *;generalize aL x2 x4 l2 2=a2 at *;generalize aL x2 x4 l2 3=a3 at *;generalize aL x2 x4 l2 4=a4 at *;generalize G 83 [l2,0,0]=c0 at *;generalize G 83 [l2,1,0]=c1 at *;generalize G 83 [l2,2,0]=c2 at *;generalize G 83 [l2,3,0]=c3 at *;omega
 refine aF cH (fun h5=>?_) (fun h5=>?_)
 ·skip
  refine aF kD (fun h6=>?_) (fun h6=>?_)
  rotate_left
  ·skip
   refine aU ?_
   unfold bW at h0;unfold cB at h1;unfold cE at h2;unfold cG at h3;unfold cI at h4;unfold cH at h5;unfold kD at h6;replace h0:B.den G (dM ([x0,x1,x2,x3,x4,x5,x6,x7]++[l0,l1,l2,l3,l4,l5])) bQ=true:=h0;obtain⟨⟨t0,t1,t2,t3,t4⟩,⟨e0,e1,e2,e3,e4⟩,⟨f0,f1,f2,f3,f4⟩,⟨g1,g2,g3,g4⟩,w1,w2,w3,w4⟩:=bE h0;exfalso;clear h0;simp only[nn,List.cons_append,List.nil_append,Bool.or_eq_true,aR,ne_eq]at h1 h2 h3 h4 h5 h6;(try simp (disch:=omega) only[w1,w2,w3,w4]at h1 h2 h3 h4 h5 h6);generalize aL x2 x4 l2 x3.toNat=a at *;generalize aL x2 x4 l2 0=a0 at *;generalize aL x2 x4 l2 1=a1 at *;generalize aL x2 x4 l2 2=a2 at *;generalize aL x2 x4 l2 3=a3 at *;generalize aL x2 x4 l2 4=a4 at *;generalize G 83 [l2,0,0]=c0 at *;generalize G 83 [l2,1,0]=c1 at *;generalize G 83 [l2,2,0]=c2 at *;generalize G 83 [l2,3,0]=c3 at *;omega
  refine aF jX (fun h7=>?_) (fun h7=>?_)
  ·skip
   refine aH aRh ?_
   unfold bW at h0;unfold cB at h1;unfold cE at h2;unfold cG at h3;unfold cI at h4;unfold cH at h5;unfold kD at h6;unfold jX at h7;replace h0:B.den G (dM ([x0,x1,x2,x3,x4,x5,x6,x7]++[l0,l1,l2,l3,l4,l5])) bQ=true:=h0;obtain⟨⟨t0,t1,t2,t3,t4⟩,⟨e0,e1,e2,e3,e4⟩,⟨f0,f1,f2,f3,f4⟩,⟨g1,g2,g3,g4⟩,w1,w2,w3,w4⟩:=bE h0;have h0':=h0;clear h0;simp only[nn,List.cons_append,List.nil_append,Bool.or_eq_true,aR,ne_eq]at h1 h2 h3 h4 h5 h6 h7;(try simp (disch:=omega) only[w1,w2,w3,w4]at h1 h2 h3 h4 h5 h6 h7);(try simp (disch:=omega) only[Int.tdiv_eq_ediv_of_nonneg]at *);simp only[bI];have key:524288<aL x2 x4 l2 x3.toNat:=(by generalize aL x2 x4 l2 x3.toNat=a at *;generalize aL x2 x4 l2 0=a0 at *;generalize aL x2 x4 l2 1=a1 at *;generalize aL x2 x4 l2 2=a2 at *;generalize aL x2 x4 l2 3=a3 at *;generalize aL x2 x4 l2 4=a4 at *;generalize G 83 [l2,0,0]=c0 at *;generalize G 83 [l2,1,0]=c1 at *;generalize G 83 [l2,2,0]=c2 at *;generalize G 83 [l2,3,0]=c3 at *;omega);refine⟨?_,?_⟩;(show B.den G _ dK=false;unfold dK;simp only[aT,h0',Bool.true_and];rw[Bool.eq_false_iff];intro q;simp only[Bool.and_eq_true]at q;simp only[nn,List.cons_append,List.nil_append,Bool.or_eq_true,aR,ne_eq]at q;have q1:aL x2 x4 l2 x3.toNat≤524288∧aL x2 x4 l2 x3.toNat≤8*x7:=q;omega);(simp only[aJ];exact⟨lT h0' key,trivial⟩)
  refine aF mJ (fun h8=>?_) (fun h8=>?_)
  ·skip
   refine aH aOi ?_
   unfold bW at h0;unfold cB at h1;unfold cE at h2;unfold cG at h3;unfold cI at h4;unfold cH at h5;unfold kD at h6;unfold jX at h7;unfold mJ at h8;replace h0:B.den G (dM ([x0,x1,x2,x3,x4,x5,x6,x7]++[l0,l1,l2,l3,l4,l5])) bQ=true:=h0;obtain⟨⟨t0,t1,t2,t3,t4⟩,⟨e0,e1,e2,e3,e4⟩,⟨f0,f1,f2,f3,f4⟩,⟨g1,g2,g3,g4⟩,w1,w2,w3,w4⟩:=bE h0;have h0':=h0;clear h0;simp only[nn,List.cons_append,List.nil_append,Bool.or_eq_true,aR,ne_eq]at h1 h2 h3 h4 h5 h6 h7 h8;(try simp (disch:=omega) only[w1,w2,w3,w4]at h1 h2 h3 h4 h5 h6 h7 h8);(try simp (disch:=omega) only[Int.tdiv_eq_ediv_of_nonneg]at *);simp only[bI];have key:aL x2 x4 l2 x3.toNat≤524288∧8*x7<aL x2 x4 l2 x3.toNat:=(by generalize aL x2 x4 l2 x3.toNat=a at *;generalize aL x2 x4 l2 0=a0 at *;generalize aL x2 x4 l2 1=a1 at *;generalize aL x2 x4 l2 2=a2 at *;generalize aL x2 x4 l2 3=a3 at *;generalize aL x2 x4 l2 4=a4 at *;generalize G 83 [l2,0,0]=c0 at *;generalize G 83 [l2,1,0]=c1 at *;generalize G 83 [l2,2,0]=c2 at *;generalize G 83 [l2,3,0]=c3 at *;omega);refine⟨?_,?_⟩;(show B.den G _ dK=false;unfold dK;simp only[aT,h0',Bool.true_and];rw[Bool.eq_false_iff];intro q;simp only[Bool.and_eq_true]at q;simp only[nn,List.cons_append,List.nil_append,Bool.or_eq_true,aR,ne_eq]at q;have q1:aL x2 x4 l2 x3.toNat≤524288∧aL x2 x4 l2 x3.toNat≤8*x7:=q;omega);(simp only[aJ];exact⟨gY h0' key.1,trivial⟩)
  refine aH aPE ?_
  unfold bW at h0;unfold cB at h1;unfold cE at h2;unfold cG at h3;unfold cI at h4;unfold cH at h5;unfold kD at h6;unfold jX at h7;unfold mJ at h8;replace h0:B.den G (dM ([x0,x1,x2,x3,x4,x5,x6,x7]++[l0,l1,l2,l3,l4,l5])) bQ=true:=h0;obtain⟨⟨t0,t1,t2,t3,t4⟩,⟨e0,e1,e2,e3,e4⟩,⟨f0,f1,f2,f3,f4⟩,⟨g1,g2,g3,g4⟩,w1,w2,w3,w4⟩:=bE h0;simp only[bI];refine⟨?_,trivial⟩;show B.den G _ dK=true;unfold dK;simp only[aT,h0,Bool.true_and,Bool.and_eq_true];clear h0;simp only[nn,List.cons_append,List.nil_append,Bool.or_eq_true,aR,ne_eq]at h1 h2 h3 h4 h5 h6 h7 h8;(try simp (disch:=omega) only[w1,w2,w3,w4]at h1 h2 h3 h4 h5 h6 h7 h8);(try simp (disch:=omega) only[Int.tdiv_eq_ediv_of_nonneg]at *);simp only[nn,List.cons_append,List.nil_append,Bool.or_eq_true,aR,ne_eq];show aL x2 x4 l2 x3.toNat≤524288∧aL x2 x4 l2 x3.toNat≤8*x7;generalize aL x2 x4 l2 x3.toNat=a at *;generalize aL x2 x4 l2 0=a0 at *;generalize aL x2 x4 l2 1=a1 at *;generalize aL x2 x4 l2 2=a2 at *;generalize aL x2 x4 l2 3=a3 at *;generalize aL x2 x4 l2 4=a4 at *;generalize G 83 [l2,0,0]=c0 at *;generalize G 83 [l2,1,0]=c1 at *;generalize G 83 [l2,2,0]=c2 at *;generalize G 83 [l2,3,0]=c3 at *;omega
 refine aF cP (fun h6=>?_) (fun h6=>?_)
 rotate_left
 ·skip
  refine aF kD (fun h7=>?_) (fun h7=>?_)
  rotate_left
  ·skip
   refine aU ?_
   unfold bW at h0;unfold cB at h1;unfold cE at h2;unfold cG at h3;unfold cI at h4;unfold cH at h5;unfold cP at h6;unfold kD at h7;replace h0:B.den G (dM ([x0,x1,x2,x3,x4,x5,x6,x7]++[l0,l1,l2,l3,l4,l5])) bQ=true:=h0;obtain⟨⟨t0,t1,t2,t3,t4⟩,⟨e0,e1,e2,e3,e4⟩,⟨f0,f1,f2,f3,f4⟩,⟨g1,g2,g3,g4⟩,w1,w2,w3,w4⟩:=bE h0;exfalso;clear h0;simp only[nn,List.cons_append,List.nil_append,Bool.or_eq_true,aR,ne_eq]at h1 h2 h3 h4 h5 h6 h7;(try simp (disch:=omega) only[w1,w2,w3,w4]at h1 h2 h3 h4 h5 h6 h7);generalize aL x2 x4 l2 x3.toNat=a at *;generalize aL x2 x4 l2 0=a0 at *;generalize aL x2 x4 l2 1=a1 at *;generalize aL x2 x4 l2 2=a2 at *;generalize aL x2 x4 l2 3=a3 at *;generalize aL x2 x4 l2 4=a4 at *;generalize G 83 [l2,0,0]=c0 at *;generalize G 83 [l2,1,0]=c1 at *;generalize G 83 [l2,2,0]=c2 at *;generalize G 83 [l2,3,0]=c3 at *;omega
  refine aF jX (fun h8=>?_) (fun h8=>?_)
  ·skip
   refine aH aP0 ?_
   unfold bW at h0;unfold cB at h1;unfold cE at h2;unfold cG at h3;unfold cI at h4;unfold cH at h5;unfold cP at h6;unfold kD at h7;unfold jX at h8;replace h0:B.den G (dM ([x0,x1,x2,x3,x4,x5,x6,x7]++[l0,l1,l2,l3,l4,l5])) bQ=true:=h0;obtain⟨⟨t0,t1,t2,t3,t4⟩,⟨e0,e1,e2,e3,e4⟩,⟨f0,f1,f2,f3,f4⟩,⟨g1,g2,g3,g4⟩,w1,w2,w3,w4⟩:=bE h0;have h0':=h0;clear h0;simp only[nn,List.cons_append,List.nil_append,Bool.or_eq_true,aR,ne_eq]at h1 h2 h3 h4 h5 h6 h7 h8;(try simp (disch:=omega) only[w1,w2,w3,w4]at h1 h2 h3 h4 h5 h6 h7 h8);(try simp (disch:=omega) only[Int.tdiv_eq_ediv_of_nonneg]at *);simp only[bI];have key:524288<aL x2 x4 l2 x3.toNat:=(by generalize aL x2 x4 l2 x3.toNat=a at *;generalize aL x2 x4 l2 0=a0 at *;generalize aL x2 x4 l2 1=a1 at *;generalize aL x2 x4 l2 2=a2 at *;generalize aL x2 x4 l2 3=a3 at *;generalize aL x2 x4 l2 4=a4 at *;generalize G 83 [l2,0,0]=c0 at *;generalize G 83 [l2,1,0]=c1 at *;generalize G 83 [l2,2,0]=c2 at *;generalize G 83 [l2,3,0]=c3 at *;omega);refine⟨?_,?_⟩;(show B.den G _ dK=false;unfold dK;simp only[aT,h0',Bool.true_and];rw[Bool.eq_false_iff];intro q;simp only[Bool.and_eq_true]at q;simp only[nn,List.cons_append,List.nil_append,Bool.or_eq_true,aR,ne_eq]at q;have q1:aL x2 x4 l2 x3.toNat≤524288∧aL x2 x4 l2 x3.toNat≤8*x7:=q;omega);(simp only[aJ];exact⟨lT h0' key,trivial⟩)
  refine aF mJ (fun h9=>?_) (fun h9=>?_)
  ·skip
   refine aH aOh ?_
   unfold bW at h0;unfold cB at h1;unfold cE at h2;unfold cG at h3;unfold cI at h4;unfold cH at h5;unfold cP at h6;unfold kD at h7;unfold jX at h8;unfold mJ at h9;replace h0:B.den G (dM ([x0,x1,x2,x3,x4,x5,x6,x7]++[l0,l1,l2,l3,l4,l5])) bQ=true:=h0;obtain⟨⟨t0,t1,t2,t3,t4⟩,⟨e0,e1,e2,e3,e4⟩,⟨f0,f1,f2,f3,f4⟩,⟨g1,g2,g3,g4⟩,w1,w2,w3,w4⟩:=bE h0;have h0':=h0;clear h0;simp only[nn,List.cons_append,List.nil_append,Bool.or_eq_true,aR,ne_eq]at h1 h2 h3 h4 h5 h6 h7 h8 h9;(try simp (disch:=omega) only[w1,w2,w3,w4]at h1 h2 h3 h4 h5 h6 h7 h8 h9);(try simp (disch:=omega) only[Int.tdiv_eq_ediv_of_nonneg]at *);simp only[bI];have key:aL x2 x4 l2 x3.toNat≤524288∧8*x7<aL x2 x4 l2 x3.toNat:=(by generalize aL x2 x4 l2 x3.toNat=a at *;generalize aL x2 x4 l2 0=a0 at *;generalize aL x2 x4 l2 1=a1 at *;generalize aL x2 x4 l2 2=a2 at *;generalize aL x2 x4 l2 3=a3 at *;generalize aL x2 x4 l2 4=a4 at *;generalize G 83 [l2,0,0]=c0 at *;generalize G 83 [l2,1,0]=c1 at *;generalize G 83 [l2,2,0]=c2 at *;generalize G 83 [l2,3,0]=c3 at *;omega);refine⟨?_,?_⟩;(show B.den G _ dK=false;unfold dK;simp only[aT,h0',Bool.true_and];rw[Bool.eq_false_iff];intro q;simp only[Bool.and_eq_true]at q;simp only[nn,List.cons_append,List.nil_append,Bool.or_eq_true,aR,ne_eq]at q;have q1:aL x2 x4 l2 x3.toNat≤524288∧aL x2 x4 l2 x3.toNat≤8*x7:=q;omega);(simp only[aJ];exact⟨gY h0' key.1,trivial⟩)
  refine aH aN1 ?_
  unfold bW at h0;unfold cB at h1;unfold cE at h2;unfold cG at h3;unfold cI at h4;unfold cH at h5;unfold cP at h6;unfold kD at h7;unfold jX at h8;unfold mJ at h9;replace h0:B.den G (dM ([x0,x1,x2,x3,x4,x5,x6,x7]++[l0,l1,l2,l3,l4,l5])) bQ=true:=h0;obtain⟨⟨t0,t1,t2,t3,t4⟩,⟨e0,e1,e2,e3,e4⟩,⟨f0,f1,f2,f3,f4⟩,⟨g1,g2,g3,g4⟩,w1,w2,w3,w4⟩:=bE h0;simp only[bI];refine⟨?_,trivial⟩;show B.den G _ dK=true;unfold dK;simp only[aT,h0,Bool.true_and,Bool.and_eq_true];clear h0;simp only[nn,List.cons_append,List.nil_append,Bool.or_eq_true,aR,ne_eq]at h1 h2 h3 h4 h5 h6 h7 h8 h9;(try simp (disch:=omega) only[w1,w2,w3,w4]at h1 h2 h3 h4 h5 h6 h7 h8 h9);(try simp (disch:=omega) only[Int.tdiv_eq_ediv_of_nonneg]at *);simp only[nn,List.cons_append,List.nil_append,Bool.or_eq_true,aR,ne_eq];show aL x2 x4 l2 x3.toNat≤524288∧aL x2 x4 l2 x3.toNat≤8*x7;generalize aL x2 x4 l2 x3.toNat=a at *;generalize aL x2 x4 l2 0=a0 at *;generalize aL x2 x4 l2 1=a1 at *;generalize aL x2 x4 l2 2=a2 at *;generalize aL x2 x4 l2 3=a3 at *;generalize aL x2 x4 l2 4=a4 at *;generalize G 83 [l2,0,0]=c0 at *;generalize G 83 [l2,1,0]=c1 at *;generalize G 83 [l2,2,0]=c2 at *;generalize G 83 [l2,3,0]=c3 at *;omega
 refine aF cK (fun h7=>?_) (fun h7=>?_)
 ·skip
  refine aF gH (fun h8=>?_) (fun h8=>?_)
  rotate_left
  ·skip
   refine aU ?_
   unfold bW at h0;unfold cB at h1;unfold cE at h2;unfold cG at h3;unfold cI at h4;unfold cH at h5;unfold cP at h6;unfold cK at h7;unfold gH at h8;replace h0:B.den G (dM ([x0,x1,x2,x3,x4,x5,x6,x7]++[l0,l1,l2,l3,l4,l5])) bQ=true:=h0;obtain⟨⟨t0,t1,t2,t3,t4⟩,⟨e0,e1,e2,e3,e4⟩,⟨f0,f1,f2,f3,f4⟩,⟨g1,g2,g3,g4⟩,w1,w2,w3,w4⟩:=bE h0;exfalso;clear h0;simp only[nn,List.cons_append,List.nil_append,Bool.or_eq_true,aR,ne_eq]at h1 h2 h3 h4 h5 h6 h7 h8;(try simp (disch:=omega) only[w1,w2,w3,w4]at h1 h2 h3 h4 h5 h6 h7 h8);generalize aL x2 x4 l2 x3.toNat=a at *;generalize aL x2 x4 l2 0=a0 at *;generalize aL x2 x4 l2 1=a1 at *;generalize aL x2 x4 l2 2=a2 at *;generalize aL x2 x4 l2 3=a3 at *;generalize aL x2 x4 l2 4=a4 at *;generalize G 83 [l2,0,0]=c0 at *;generalize G 83 [l2,1,0]=c1 at *;generalize G 83 [l2,2,0]=c2 at *;generalize G 83 [l2,3,0]=c3 at *;omega
  refine aF gD (fun h9=>?_) (fun h9=>?_)
  ·skip
   refine aH aPQ ?_
   unfold bW at h0;unfold cB at h1;unfold cE at h2;unfold cG at h3;unfold cI at h4;unfold cH at h5;unfold cP at h6;unfold cK at h7;unfold gH at h8;unfold gD at h9;replace h0:B.den G (dM ([x0,x1,x2,x3,x4,x5,x6,x7]++[l0,l1,l2,l3,l4,l5])) bQ=true:=h0;obtain⟨⟨t0,t1,t2,t3,t4⟩,⟨e0,e1,e2,e3,e4⟩,⟨f0,f1,f2,f3,f4⟩,⟨g1,g2,g3,g4⟩,w1,w2,w3,w4⟩:=bE h0;have h0':=h0;clear h0;simp only[nn,List.cons_append,List.nil_append,Bool.or_eq_true,aR,ne_eq]at h1 h2 h3 h4 h5 h6 h7 h8 h9;(try simp (disch:=omega) only[w1,w2,w3,w4]at h1 h2 h3 h4 h5 h6 h7 h8 h9);(try simp (disch:=omega) only[Int.tdiv_eq_ediv_of_nonneg]at *);simp only[bI];have key:524288<aL x2 x4 l2 x3.toNat:=(by generalize aL x2 x4 l2 x3.toNat=a at *;generalize aL x2 x4 l2 0=a0 at *;generalize aL x2 x4 l2 1=a1 at *;generalize aL x2 x4 l2 2=a2 at *;generalize aL x2 x4 l2 3=a3 at *;generalize aL x2 x4 l2 4=a4 at *;generalize G 83 [l2,0,0]=c0 at *;generalize G 83 [l2,1,0]=c1 at *;generalize G 83 [l2,2,0]=c2 at *;generalize G 83 [l2,3,0]=c3 at *;omega);refine⟨?_,?_⟩;(show B.den G _ dK=false;unfold dK;simp only[aT,h0',Bool.true_and];rw[Bool.eq_false_iff];intro q;simp only[Bool.and_eq_true]at q;simp only[nn,List.cons_append,List.nil_append,Bool.or_eq_true,aR,ne_eq]at q;have q1:aL x2 x4 l2 x3.toNat≤524288∧aL x2 x4 l2 x3.toNat≤8*x7:=q;omega);(simp only[aJ];exact⟨lT h0' key,trivial⟩)
  refine aF jJ (fun h10=>?_) (fun h10=>?_)
  ·skip
   refine aH aL8 ?_
   unfold bW at h0;unfold cB at h1;unfold cE at h2;unfold cG at h3;unfold cI at h4;unfold cH at h5;unfold cP at h6;unfold cK at h7;unfold gH at h8;unfold gD at h9;unfold jJ at h10;replace h0:B.den G (dM ([x0,x1,x2,x3,x4,x5,x6,x7]++[l0,l1,l2,l3,l4,l5])) bQ=true:=h0;obtain⟨⟨t0,t1,t2,t3,t4⟩,⟨e0,e1,e2,e3,e4⟩,⟨f0,f1,f2,f3,f4⟩,⟨g1,g2,g3,g4⟩,w1,w2,w3,w4⟩:=bE h0;have h0':=h0;clear h0;simp only[nn,List.cons_append,List.nil_append,Bool.or_eq_true,aR,ne_eq]at h1 h2 h3 h4 h5 h6 h7 h8 h9 h10;(try simp (disch:=omega) only[w1,w2,w3,w4]at h1 h2 h3 h4 h5 h6 h7 h8 h9 h10);(try simp (disch:=omega) only[Int.tdiv_eq_ediv_of_nonneg]at *);simp only[bI];have key:aL x2 x4 l2 x3.toNat≤524288∧8*x7<aL x2 x4 l2 x3.toNat:=(by generalize aL x2 x4 l2 x3.toNat=a at *;generalize aL x2 x4 l2 0=a0 at *;generalize aL x2 x4 l2 1=a1 at *;generalize aL x2 x4 l2 2=a2 at *;generalize aL x2 x4 l2 3=a3 at *;generalize aL x2 x4 l2 4=a4 at *;generalize G 83 [l2,0,0]=c0 at *;generalize G 83 [l2,1,0]=c1 at *;generalize G 83 [l2,2,0]=c2 at *;generalize G 83 [l2,3,0]=c3 at *;omega);refine⟨?_,?_⟩;(show B.den G _ dK=false;unfold dK;simp only[aT,h0',Bool.true_and];rw[Bool.eq_false_iff];intro q;simp only[Bool.and_eq_true]at q;simp only[nn,List.cons_append,List.nil_append,Bool.or_eq_true,aR,ne_eq]at q;have q1:aL x2 x4 l2 x3.toNat≤524288∧aL x2 x4 l2 x3.toNat≤8*x7:=q;omega);(simp only[aJ];exact⟨gY h0' key.1,trivial⟩)
  refine aH aOC ?_
  unfold bW at h0;unfold cB at h1;unfold cE at h2;unfold cG at h3;unfold cI at h4;unfold cH at h5;unfold cP at h6;unfold cK at h7;unfold gH at h8;unfold gD at h9;unfold jJ at h10;replace h0:B.den G (dM ([x0,x1,x2,x3,x4,x5,x6,x7]++[l0,l1,l2,l3,l4,l5])) bQ=true:=h0;obtain⟨⟨t0,t1,t2,t3,t4⟩,⟨e0,e1,e2,e3,e4⟩,⟨f0,f1,f2,f3,f4⟩,⟨g1,g2,g3,g4⟩,w1,w2,w3,w4⟩:=bE h0;simp only[bI];refine⟨?_,trivial⟩;show B.den G _ dK=true;unfold dK;simp only[aT,h0,Bool.true_and,Bool.and_eq_true];clear h0;simp only[nn,List.cons_append,List.nil_append,Bool.or_eq_true,aR,ne_eq]at h1 h2 h3 h4 h5 h6 h7 h8 h9 h10;(try simp (disch:=omega) only[w1,w2,w3,w4]at h1 h2 h3 h4 h5 h6 h7 h8 h9 h10);(try simp (disch:=omega) only[Int.tdiv_eq_ediv_of_nonneg]at *);simp only[nn,List.cons_append,List.nil_append,Bool.or_eq_true,aR,ne_eq];show aL x2 x4 l2 x3.toNat≤524288∧aL x2 x4 l2 x3.toNat≤8*x7;generalize aL x2 x4 l2 x3.toNat=a at *;generalize aL x2 x4 l2 0=a0 at *;generalize aL x2 x4 l2 1=a1 at *;generalize aL x2 x4 l2 2=a2 at *;generalize aL x2 x4 l2 3=a3 at *;generalize aL x2 x4 l2 4=a4 at *;generalize G 83 [l2,0,0]=c0 at *;generalize G 83 [l2,1,0]=c1 at *;generalize G 83 [l2,2,0]=c2 at *;generalize G 83 [l2,3,0]=c3 at *;omega
 refine aF cR (fun h8=>?_) (fun h8=>?_)
 rotate_left
 ·skip
  refine aF gH (fun h9=>?_) (fun h9=>?_)
  rotate_left
  ·skip
   refine aU ?_
   unfold bW at h0;unfold cB at h1;unfold cE at h2;unfold cG at h3;unfold cI at h4;unfold cH at h5;unfold cP at h6;unfold cK at h7;unfold cR at h8;unfold gH at h9;replace h0:B.den G (dM ([x0,x1,x2,x3,x4,x5,x6,x7]++[l0,l1,l2,l3,l4,l5])) bQ=true:=h0;obtain⟨⟨t0,t1,t2,t3,t4⟩,⟨e0,e1,e2,e3,e4⟩,⟨f0,f1,f2,f3,f4⟩,⟨g1,g2,g3,g4⟩,w1,w2,w3,w4⟩:=bE h0;exfalso;clear h0;simp only[nn,List.cons_append,List.nil_append,Bool.or_eq_true,aR,ne_eq]at h1 h2 h3 h4 h5 h6 h7 h8 h9;(try simp (disch:=omega) only[w1,w2,w3,w4]at h1 h2 h3 h4 h5 h6 h7 h8 h9);generalize aL x2 x4 l2 x3.toNat=a at *;generalize aL x2 x4 l2 0=a0 at *;generalize aL x2 x4 l2 1=a1 at *;generalize aL x2 x4 l2 2=a2 at *;generalize aL x2 x4 l2 3=a3 at *;generalize aL x2 x4 l2 4=a4 at *;generalize G 83 [l2,0,0]=c0 at *;generalize G 83 [l2,1,0]=c1 at *;generalize G 83 [l2,2,0]=c2 at *;generalize G 83 [l2,3,0]=c3 at *;omega
  refine aF gD (fun h10=>?_) (fun h10=>?_)
  ·skip
   refine aH aP7 ?_
   unfold bW at h0;unfold cB at h1;unfold cE at h2;unfold cG at h3;unfold cI at h4;unfold cH at h5;unfold cP at h6;unfold cK at h7;unfold cR at h8;unfold gH at h9;unfold gD at h10;replace h0:B.den G (dM ([x0,x1,x2,x3,x4,x5,x6,x7]++[l0,l1,l2,l3,l4,l5])) bQ=true:=h0;obtain⟨⟨t0,t1,t2,t3,t4⟩,⟨e0,e1,e2,e3,e4⟩,⟨f0,f1,f2,f3,f4⟩,⟨g1,g2,g3,g4⟩,w1,w2,w3,w4⟩:=bE h0;have h0':=h0;clear h0;simp only[nn,List.cons_append,List.nil_append,Bool.or_eq_true,aR,ne_eq]at h1 h2 h3 h4 h5 h6 h7 h8 h9 h10;(try simp (disch:=omega) only[w1,w2,w3,w4]at h1 h2 h3 h4 h5 h6 h7 h8 h9 h10);(try simp (disch:=omega) only[Int.tdiv_eq_ediv_of_nonneg]at *);simp only[bI];have key:524288<aL x2 x4 l2 x3.toNat:=(by generalize aL x2 x4 l2 x3.toNat=a at *;generalize aL x2 x4 l2 0=a0 at *;generalize aL x2 x4 l2 1=a1 at *;generalize aL x2 x4 l2 2=a2 at *;generalize aL x2 x4 l2 3=a3 at *;generalize aL x2 x4 l2 4=a4 at *;generalize G 83 [l2,0,0]=c0 at *;generalize G 83 [l2,1,0]=c1 at *;generalize G 83 [l2,2,0]=c2 at *;generalize G 83 [l2,3,0]=c3 at *;omega);refine⟨?_,?_⟩;(show B.den G _ dK=false;unfold dK;simp only[aT,h0',Bool.true_and];rw[Bool.eq_false_iff];intro q;simp only[Bool.and_eq_true]at q;simp only[nn,List.cons_append,List.nil_append,Bool.or_eq_true,aR,ne_eq]at q;have q1:aL x2 x4 l2 x3.toNat≤524288∧aL x2 x4 l2 x3.toNat≤8*x7:=q;omega);(simp only[aJ];exact⟨lT h0' key,trivial⟩)
  refine aF jJ (fun h11=>?_) (fun h11=>?_)
  ·skip
   refine aH aOP ?_
   unfold bW at h0;unfold cB at h1;unfold cE at h2;unfold cG at h3;unfold cI at h4;unfold cH at h5;unfold cP at h6;unfold cK at h7;unfold cR at h8;unfold gH at h9;unfold gD at h10;unfold jJ at h11;replace h0:B.den G (dM ([x0,x1,x2,x3,x4,x5,x6,x7]++[l0,l1,l2,l3,l4,l5])) bQ=true:=h0;obtain⟨⟨t0,t1,t2,t3,t4⟩,⟨e0,e1,e2,e3,e4⟩,⟨f0,f1,f2,f3,f4⟩,⟨g1,g2,g3,g4⟩,w1,w2,w3,w4⟩:=bE h0;have h0':=h0;clear h0;simp only[nn,List.cons_append,List.nil_append,Bool.or_eq_true,aR,ne_eq]at h1 h2 h3 h4 h5 h6 h7 h8 h9 h10 h11;(try simp (disch:=omega) only[w1,w2,w3,w4]at h1 h2 h3 h4 h5 h6 h7 h8 h9 h10 h11);(try simp (disch:=omega) only[Int.tdiv_eq_ediv_of_nonneg]at *);simp only[bI];have key:aL x2 x4 l2 x3.toNat≤524288∧8*x7<aL x2 x4 l2 x3.toNat:=(by generalize aL x2 x4 l2 x3.toNat=a at *;generalize aL x2 x4 l2 0=a0 at *;generalize aL x2 x4 l2 1=a1 at *;generalize aL x2 x4 l2 2=a2 at *;generalize aL x2 x4 l2 3=a3 at *;generalize aL x2 x4 l2 4=a4 at *;generalize G 83 [l2,0,0]=c0 at *;generalize G 83 [l2,1,0]=c1 at *;generalize G 83 [l2,2,0]=c2 at *;generalize G 83 [l2,3,0]=c3 at *;omega);refine⟨?_,?_⟩;(show B.den G _ dK=false;unfold dK;simp only[aT,h0',Bool.true_and];rw[Bool.eq_false_iff];intro q;simp only[Bool.and_eq_true]at q;simp only[nn,List.cons_append,List.nil_append,Bool.or_eq_true,aR,ne_eq]at q;have q1:aL x2 x4 l2 x3.toNat≤524288∧aL x2 x4 l2 x3.toNat≤8*x7:=q;omega);(simp only[aJ];exact⟨gY h0' key.1,trivial⟩)
  refine aH aQC ?_
  unfold bW at h0;unfold cB at h1;unfold cE at h2;unfold cG at h3;unfold cI at h4;unfold cH at h5;unfold cP at h6;unfold cK at h7;unfold cR at h8;unfold gH at h9;unfold gD at h10;unfold jJ at h11;replace h0:B.den G (dM ([x0,x1,x2,x3,x4,x5,x6,x7]++[l0,l1,l2,l3,l4,l5])) bQ=true:=h0;obtain⟨⟨t0,t1,t2,t3,t4⟩,⟨e0,e1,e2,e3,e4⟩,⟨f0,f1,f2,f3,f4⟩,⟨g1,g2,g3,g4⟩,w1,w2,w3,w4⟩:=bE h0;simp only[bI];refine⟨?_,trivial⟩;show B.den G _ dK=true;unfold dK;simp only[aT,h0,Bool.true_and,Bool.and_eq_true];clear h0;simp only[nn,List.cons_append,List.nil_append,Bool.or_eq_true,aR,ne_eq]at h1 h2 h3 h4 h5 h6 h7 h8 h9 h10 h11;(try simp (disch:=omega) only[w1,w2,w3,w4]at h1 h2 h3 h4 h5 h6 h7 h8 h9 h10 h11);(try simp (disch:=omega) only[Int.tdiv_eq_ediv_of_nonneg]at *);simp only[nn,List.cons_append,List.nil_append,Bool.or_eq_true,aR,ne_eq];show aL x2 x4 l2 x3.toNat≤524288∧aL x2 x4 l2 x3.toNat≤8*x7;generalize aL x2 x4 l2 x3.toNat=a at *;generalize aL x2 x4 l2 0=a0 at *;generalize aL x2 x4 l2 1=a1 at *;generalize aL x2 x4 l2 2=a2 at *;generalize aL x2 x4 l2 3=a3 at *;generalize aL x2 x4 l2 4=a4 at *;generalize G 83 [l2,0,0]=c0 at *;generalize G 83 [l2,1,0]=c1 at *;generalize G 83 [l2,2,0]=c2 at *;generalize G 83 [l2,3,0]=c3 at *;omega
 refine aF dO (fun h9=>?_) (fun h9=>?_)
 ·skip
  refine aF gI (fun h10=>?_) (fun h10=>?_)
  rotate_left
  ·skip
   refine aU ?_
   unfold bW at h0;unfold cB at h1;unfold cE at h2;unfold cG at h3;unfold cI at h4;unfold cH at h5;unfold cP at h6;unfold cK at h7;unfold cR at h8;unfold dO at h9;unfold gI at h10;replace h0:B.den G (dM ([x0,x1,x2,x3,x4,x5,x6,x7]++[l0,l1,l2,l3,l4,l5])) bQ=true:=h0;obtain⟨⟨t0,t1,t2,t3,t4⟩,⟨e0,e1,e2,e3,e4⟩,⟨f0,f1,f2,f3,f4⟩,⟨g1,g2,g3,g4⟩,w1,w2,w3,w4⟩:=bE h0;exfalso;clear h0;simp only[nn,List.cons_append,List.nil_append,Bool.or_eq_true,aR,ne_eq]at h1 h2 h3 h4 h5 h6 h7 h8 h9 h10;(try simp (disch:=omega) only[w1,w2,w3,w4]at h1 h2 h3 h4 h5 h6 h7 h8 h9 h10);generalize aL x2 x4 l2 x3.toNat=a at *;generalize aL x2 x4 l2 0=a0 at *;generalize aL x2 x4 l2 1=a1 at *;generalize aL x2 x4 l2 2=a2 at *;generalize aL x2 x4 l2 3=a3 at *;generalize aL x2 x4 l2 4=a4 at *;generalize G 83 [l2,0,0]=c0 at *;generalize G 83 [l2,1,0]=c1 at *;generalize G 83 [l2,2,0]=c2 at *;generalize G 83 [l2,3,0]=c3 at *;omega
  refine aF gM (fun h11=>?_) (fun h11=>?_)
  ·skip
   refine aH aP6 ?_
   unfold bW at h0;unfold cB at h1;unfold cE at h2;unfold cG at h3;unfold cI at h4;unfold cH at h5;unfold cP at h6;unfold cK at h7;unfold cR at h8;unfold dO at h9;unfold gI at h10;unfold gM at h11;replace h0:B.den G (dM ([x0,x1,x2,x3,x4,x5,x6,x7]++[l0,l1,l2,l3,l4,l5])) bQ=true:=h0;obtain⟨⟨t0,t1,t2,t3,t4⟩,⟨e0,e1,e2,e3,e4⟩,⟨f0,f1,f2,f3,f4⟩,⟨g1,g2,g3,g4⟩,w1,w2,w3,w4⟩:=bE h0;have h0':=h0;clear h0;simp only[nn,List.cons_append,List.nil_append,Bool.or_eq_true,aR,ne_eq]at h1 h2 h3 h4 h5 h6 h7 h8 h9 h10 h11;(try simp (disch:=omega) only[w1,w2,w3,w4]at h1 h2 h3 h4 h5 h6 h7 h8 h9 h10 h11);(try simp (disch:=omega) only[Int.tdiv_eq_ediv_of_nonneg]at *);simp only[bI];have key:524288<aL x2 x4 l2 x3.toNat:=(by generalize aL x2 x4 l2 x3.toNat=a at *;generalize aL x2 x4 l2 0=a0 at *;generalize aL x2 x4 l2 1=a1 at *;generalize aL x2 x4 l2 2=a2 at *;generalize aL x2 x4 l2 3=a3 at *;generalize aL x2 x4 l2 4=a4 at *;generalize G 83 [l2,0,0]=c0 at *;generalize G 83 [l2,1,0]=c1 at *;generalize G 83 [l2,2,0]=c2 at *;generalize G 83 [l2,3,0]=c3 at *;omega);refine⟨?_,?_⟩;(show B.den G _ dK=false;unfold dK;simp only[aT,h0',Bool.true_and];rw[Bool.eq_false_iff];intro q;simp only[Bool.and_eq_true]at q;simp only[nn,List.cons_append,List.nil_append,Bool.or_eq_true,aR,ne_eq]at q;have q1:aL x2 x4 l2 x3.toNat≤524288∧aL x2 x4 l2 x3.toNat≤8*x7:=q;omega);(simp only[aJ];exact⟨lT h0' key,trivial⟩)
  refine aF jN (fun h12=>?_) (fun h12=>?_)
  ·skip
   refine aH aMX ?_
   unfold bW at h0;unfold cB at h1;unfold cE at h2;unfold cG at h3;unfold cI at h4;unfold cH at h5;unfold cP at h6;unfold cK at h7;unfold cR at h8;unfold dO at h9;unfold gI at h10;unfold gM at h11;unfold jN at h12;replace h0:B.den G (dM ([x0,x1,x2,x3,x4,x5,x6,x7]++[l0,l1,l2,l3,l4,l5])) bQ=true:=h0;obtain⟨⟨t0,t1,t2,t3,t4⟩,⟨e0,e1,e2,e3,e4⟩,⟨f0,f1,f2,f3,f4⟩,⟨g1,g2,g3,g4⟩,w1,w2,w3,w4⟩:=bE h0;have h0':=h0;clear h0;simp only[nn,List.cons_append,List.nil_append,Bool.or_eq_true,aR,ne_eq]at h1 h2 h3 h4 h5 h6 h7 h8 h9 h10 h11 h12;(try simp (disch:=omega) only[w1,w2,w3,w4]at h1 h2 h3 h4 h5 h6 h7 h8 h9 h10 h11 h12);(try simp (disch:=omega) only[Int.tdiv_eq_ediv_of_nonneg]at *);simp only[bI];have key:aL x2 x4 l2 x3.toNat≤524288∧8*x7<aL x2 x4 l2 x3.toNat:=(by generalize aL x2 x4 l2 x3.toNat=a at *;generalize aL x2 x4 l2 0=a0 at *;generalize aL x2 x4 l2 1=a1 at *;generalize aL x2 x4 l2 2=a2 at *;generalize aL x2 x4 l2 3=a3 at *;generalize aL x2 x4 l2 4=a4 at *;generalize G 83 [l2,0,0]=c0 at *;generalize G 83 [l2,1,0]=c1 at *;generalize G 83 [l2,2,0]=c2 at *;generalize G 83 [l2,3,0]=c3 at *;omega);refine⟨?_,?_⟩;(show B.den G _ dK=false;unfold dK;simp only[aT,h0',Bool.true_and];rw[Bool.eq_false_iff];intro q;simp only[Bool.and_eq_true]at q;simp only[nn,List.cons_append,List.nil_append,Bool.or_eq_true,aR,ne_eq]at q;have q1:aL x2 x4 l2 x3.toNat≤524288∧aL x2 x4 l2 x3.toNat≤8*x7:=q;omega);(simp only[aJ];exact⟨gY h0' key.1,trivial⟩)
  refine aH aQH ?_
  unfold bW at h0;unfold cB at h1;unfold cE at h2;unfold cG at h3;unfold cI at h4;unfold cH at h5;unfold cP at h6;unfold cK at h7;unfold cR at h8;unfold dO at h9;unfold gI at h10;unfold gM at h11;unfold jN at h12;replace h0:B.den G (dM ([x0,x1,x2,x3,x4,x5,x6,x7]++[l0,l1,l2,l3,l4,l5])) bQ=true:=h0;obtain⟨⟨t0,t1,t2,t3,t4⟩,⟨e0,e1,e2,e3,e4⟩,⟨f0,f1,f2,f3,f4⟩,⟨g1,g2,g3,g4⟩,w1,w2,w3,w4⟩:=bE h0;simp only[bI];refine⟨?_,trivial⟩;show B.den G _ dK=true;unfold dK;simp only[aT,h0,Bool.true_and,Bool.and_eq_true];clear h0;simp only[nn,List.cons_append,List.nil_append,Bool.or_eq_true,aR,ne_eq]at h1 h2 h3 h4 h5 h6 h7 h8 h9 h10 h11 h12;(try simp (disch:=omega) only[w1,w2,w3,w4]at h1 h2 h3 h4 h5 h6 h7 h8 h9 h10 h11 h12);(try simp (disch:=omega) only[Int.tdiv_eq_ediv_of_nonneg]at *);simp only[nn,List.cons_append,List.nil_append,Bool.or_eq_true,aR,ne_eq];show aL x2 x4 l2 x3.toNat≤524288∧aL x2 x4 l2 x3.toNat≤8*x7;generalize aL x2 x4 l2 x3.toNat=a at *;generalize aL x2 x4 l2 0=a0 at *;generalize aL x2 x4 l2 1=a1 at *;generalize aL x2 x4 l2 2=a2 at *;generalize aL x2 x4 l2 3=a3 at *;generalize aL x2 x4 l2 4=a4 at *;generalize G 83 [l2,0,0]=c0 at *;generalize G 83 [l2,1,0]=c1 at *;generalize G 83 [l2,2,0]=c2 at *;generalize G 83 [l2,3,0]=c3 at *;omega
 refine aF eM (fun h10=>?_) (fun h10=>?_)
 rotate_left
 ·skip
  refine aF gI (fun h11=>?_) (fun h11=>?_)
  rotate_left
  ·skip
   refine aU ?_
   unfold bW at h0;unfold cB at h1;unfold cE at h2;unfold cG at h3;unfold cI at h4;unfold cH at h5;unfold cP at h6;unfold cK at h7;unfold cR at h8;unfold dO at h9;unfold eM at h10;unfold gI at h11;replace h0:B.den G (dM ([x0,x1,x2,x3,x4,x5,x6,x7]++[l0,l1,l2,l3,l4,l5])) bQ=true:=h0;obtain⟨⟨t0,t1,t2,t3,t4⟩,⟨e0,e1,e2,e3,e4⟩,⟨f0,f1,f2,f3,f4⟩,⟨g1,g2,g3,g4⟩,w1,w2,w3,w4⟩:=bE h0;exfalso;clear h0;simp only[nn,List.cons_append,List.nil_append,Bool.or_eq_true,aR,ne_eq]at h1 h2 h3 h4 h5 h6 h7 h8 h9 h10 h11;(try simp (disch:=omega) only[w1,w2,w3,w4]at h1 h2 h3 h4 h5 h6 h7 h8 h9 h10 h11);generalize aL x2 x4 l2 x3.toNat=a at *;generalize aL x2 x4 l2 0=a0 at *;generalize aL x2 x4 l2 1=a1 at *;generalize aL x2 x4 l2 2=a2 at *;generalize aL x2 x4 l2 3=a3 at *;generalize aL x2 x4 l2 4=a4 at *;generalize G 83 [l2,0,0]=c0 at *;generalize G 83 [l2,1,0]=c1 at *;generalize G 83 [l2,2,0]=c2 at *;generalize G 83 [l2,3,0]=c3 at *;omega
  refine aF gM (fun h12=>?_) (fun h12=>?_)
  ·skip
   refine aH aPH ?_
   unfold bW at h0;unfold cB at h1;unfold cE at h2;unfold cG at h3;unfold cI at h4;unfold cH at h5;unfold cP at h6;unfold cK at h7;unfold cR at h8;unfold dO at h9;unfold eM at h10;unfold gI at h11;unfold gM at h12;replace h0:B.den G (dM ([x0,x1,x2,x3,x4,x5,x6,x7]++[l0,l1,l2,l3,l4,l5])) bQ=true:=h0;obtain⟨⟨t0,t1,t2,t3,t4⟩,⟨e0,e1,e2,e3,e4⟩,⟨f0,f1,f2,f3,f4⟩,⟨g1,g2,g3,g4⟩,w1,w2,w3,w4⟩:=bE h0;have h0':=h0;clear h0;simp only[nn,List.cons_append,List.nil_append,Bool.or_eq_true,aR,ne_eq]at h1 h2 h3 h4 h5 h6 h7 h8 h9 h10 h11 h12;(try simp (disch:=omega) only[w1,w2,w3,w4]at h1 h2 h3 h4 h5 h6 h7 h8 h9 h10 h11 h12);(try simp (disch:=omega) only[Int.tdiv_eq_ediv_of_nonneg]at *);simp only[bI];have key:524288<aL x2 x4 l2 x3.toNat:=(by generalize aL x2 x4 l2 x3.toNat=a at *;generalize aL x2 x4 l2 0=a0 at *;generalize aL x2 x4 l2 1=a1 at *;generalize aL x2 x4 l2 2=a2 at *;generalize aL x2 x4 l2 3=a3 at *;generalize aL x2 x4 l2 4=a4 at *;generalize G 83 [l2,0,0]=c0 at *;generalize G 83 [l2,1,0]=c1 at *;generalize G 83 [l2,2,0]=c2 at *;generalize G 83 [l2,3,0]=c3 at *;omega);refine⟨?_,?_⟩;(show B.den G _ dK=false;unfold dK;simp only[aT,h0',Bool.true_and];rw[Bool.eq_false_iff];intro q;simp only[Bool.and_eq_true]at q;simp only[nn,List.cons_append,List.nil_append,Bool.or_eq_true,aR,ne_eq]at q;have q1:aL x2 x4 l2 x3.toNat≤524288∧aL x2 x4 l2 x3.toNat≤8*x7:=q;omega);(simp only[aJ];exact⟨lT h0' key,trivial⟩)
  refine aF jN (fun h13=>?_) (fun h13=>?_)
  ·skip
   refine aH aQm ?_
   unfold bW at h0;unfold cB at h1;unfold cE at h2;unfold cG at h3;unfold cI at h4;unfold cH at h5;unfold cP at h6;unfold cK at h7;unfold cR at h8;unfold dO at h9;unfold eM at h10;unfold gI at h11;unfold gM at h12;unfold jN at h13;replace h0:B.den G (dM ([x0,x1,x2,x3,x4,x5,x6,x7]++[l0,l1,l2,l3,l4,l5])) bQ=true:=h0;obtain⟨⟨t0,t1,t2,t3,t4⟩,⟨e0,e1,e2,e3,e4⟩,⟨f0,f1,f2,f3,f4⟩,⟨g1,g2,g3,g4⟩,w1,w2,w3,w4⟩:=bE h0;have h0':=h0;clear h0;simp only[nn,List.cons_append,List.nil_append,Bool.or_eq_true,aR,ne_eq]at h1 h2 h3 h4 h5 h6 h7 h8 h9 h10 h11 h12 h13;(try simp (disch:=omega) only[w1,w2,w3,w4]at h1 h2 h3 h4 h5 h6 h7 h8 h9 h10 h11 h12 h13);(try simp (disch:=omega) only[Int.tdiv_eq_ediv_of_nonneg]at *);simp only[bI];have key:aL x2 x4 l2 x3.toNat≤524288∧8*x7<aL x2 x4 l2 x3.toNat:=(by generalize aL x2 x4 l2 x3.toNat=a at *;generalize aL x2 x4 l2 0=a0 at *;generalize aL x2 x4 l2 1=a1 at *;generalize aL x2 x4 l2 2=a2 at *;generalize aL x2 x4 l2 3=a3 at *;generalize aL x2 x4 l2 4=a4 at *;generalize G 83 [l2,0,0]=c0 at *;generalize G 83 [l2,1,0]=c1 at *;generalize G 83 [l2,2,0]=c2 at *;generalize G 83 [l2,3,0]=c3 at *;omega);refine⟨?_,?_⟩;(show B.den G _ dK=false;unfold dK;simp only[aT,h0',Bool.true_and];rw[Bool.eq_false_iff];intro q;simp only[Bool.and_eq_true]at q;simp only[nn,List.cons_append,List.nil_append,Bool.or_eq_true,aR,ne_eq]at q;have q1:aL x2 x4 l2 x3.toNat≤524288∧aL x2 x4 l2 x3.toNat≤8*x7:=q;omega);(simp only[aJ];exact⟨gY h0' key.1,trivial⟩)
  refine aH aN0 ?_
  unfold bW at h0;unfold cB at h1;unfold cE at h2;unfold cG at h3;unfold cI at h4;unfold cH at h5;unfold cP at h6;unfold cK at h7;unfold cR at h8;unfold dO at h9;unfold eM at h10;unfold gI at h11;unfold gM at h12;unfold jN at h13;replace h0:B.den G (dM ([x0,x1,x2,x3,x4,x5,x6,x7]++[l0,l1,l2,l3,l4,l5])) bQ=true:=h0;obtain⟨⟨t0,t1,t2,t3,t4⟩,⟨e0,e1,e2,e3,e4⟩,⟨f0,f1,f2,f3,f4⟩,⟨g1,g2,g3,g4⟩,w1,w2,w3,w4⟩:=bE h0;simp only[bI];refine⟨?_,trivial⟩;show B.den G _ dK=true;unfold dK;simp only[aT,h0,Bool.true_and,Bool.and_eq_true];clear h0;simp only[nn,List.cons_append,List.nil_append,Bool.or_eq_true,aR,ne_eq]at h1 h2 h3 h4 h5 h6 h7 h8 h9 h10 h11 h12 h13;(try simp (disch:=omega) only[w1,w2,w3,w4]at h1 h2 h3 h4 h5 h6 h7 h8 h9 h10 h11 h12 h13);(try simp (disch:=omega) only[Int.tdiv_eq_ediv_of_nonneg]at *);simp only[nn,List.cons_append,List.nil_append,Bool.or_eq_true,aR,ne_eq];show aL x2 x4 l2 x3.toNat≤524288∧aL x2 x4 l2 x3.toNat≤8*x7;generalize aL x2 x4 l2 x3.toNat=a at *;generalize aL x2 x4 l2 0=a0 at *;generalize aL x2 x4 l2 1=a1 at *;generalize aL x2 x4 l2 2=a2 at *;generalize aL x2 x4 l2 3=a3 at *;generalize aL x2 x4 l2 4=a4 at *;generalize G 83 [l2,0,0]=c0 at *;generalize G 83 [l2,1,0]=c1 at *;generalize G 83 [l2,2,0]=c2 at *;generalize G 83 [l2,3,0]=c3 at *;omega
 refine aF hZ (fun h11=>?_) (fun h11=>?_)
 ·skip
  refine aF gL (fun h12=>?_) (fun h12=>?_)
  rotate_left
  ·skip
   refine aU ?_
   unfold bW at h0;unfold cB at h1;unfold cE at h2;unfold cG at h3;unfold cI at h4;unfold cH at h5;unfold cP at h6;unfold cK at h7;unfold cR at h8;unfold dO at h9;unfold eM at h10;unfold hZ at h11;unfold gL at h12;replace h0:B.den G (dM ([x0,x1,x2,x3,x4,x5,x6,x7]++[l0,l1,l2,l3,l4,l5])) bQ=true:=h0;obtain⟨⟨t0,t1,t2,t3,t4⟩,⟨e0,e1,e2,e3,e4⟩,⟨f0,f1,f2,f3,f4⟩,⟨g1,g2,g3,g4⟩,w1,w2,w3,w4⟩:=bE h0;exfalso;clear h0;simp only[nn,List.cons_append,List.nil_append,Bool.or_eq_true,aR,ne_eq]at h1 h2 h3 h4 h5 h6 h7 h8 h9 h10 h11 h12;(try simp (disch:=omega) only[w1,w2,w3,w4]at h1 h2 h3 h4 h5 h6 h7 h8 h9 h10 h11 h12);generalize aL x2 x4 l2 x3.toNat=a at *;generalize aL x2 x4 l2 0=a0 at *;generalize aL x2 x4 l2 1=a1 at *;generalize aL x2 x4 l2 2=a2 at *;generalize aL x2 x4 l2 3=a3 at *;generalize aL x2 x4 l2 4=a4 at *;generalize G 83 [l2,0,0]=c0 at *;generalize G 83 [l2,1,0]=c1 at *;generalize G 83 [l2,2,0]=c2 at *;generalize G 83 [l2,3,0]=c3 at *;omega
  refine aF gE (fun h13=>?_) (fun h13=>?_)
  ·skip
   refine aH aNq ?_
   unfold bW at h0;unfold cB at h1;unfold cE at h2;unfold cG at h3;unfold cI at h4;unfold cH at h5;unfold cP at h6;unfold cK at h7;unfold cR at h8;unfold dO at h9;unfold eM at h10;unfold hZ at h11;unfold gL at h12;unfold gE at h13;replace h0:B.den G (dM ([x0,x1,x2,x3,x4,x5,x6,x7]++[l0,l1,l2,l3,l4,l5])) bQ=true:=h0;obtain⟨⟨t0,t1,t2,t3,t4⟩,⟨e0,e1,e2,e3,e4⟩,⟨f0,f1,f2,f3,f4⟩,⟨g1,g2,g3,g4⟩,w1,w2,w3,w4⟩:=bE h0;have h0':=h0;clear h0;simp only[nn,List.cons_append,List.nil_append,Bool.or_eq_true,aR,ne_eq]at h1 h2 h3 h4 h5 h6 h7 h8 h9 h10 h11 h12 h13;(try simp (disch:=omega) only[w1,w2,w3,w4]at h1 h2 h3 h4 h5 h6 h7 h8 h9 h10 h11 h12 h13);(try simp (disch:=omega) only[Int.tdiv_eq_ediv_of_nonneg]at *);simp only[bI];have key:524288<aL x2 x4 l2 x3.toNat:=(by generalize aL x2 x4 l2 x3.toNat=a at *;generalize aL x2 x4 l2 0=a0 at *;generalize aL x2 x4 l2 1=a1 at *;generalize aL x2 x4 l2 2=a2 at *;generalize aL x2 x4 l2 3=a3 at *;generalize aL x2 x4 l2 4=a4 at *;generalize G 83 [l2,0,0]=c0 at *;generalize G 83 [l2,1,0]=c1 at *;generalize G 83 [l2,2,0]=c2 at *;generalize G 83 [l2,3,0]=c3 at *;omega);refine⟨?_,?_⟩;(show B.den G _ dK=false;unfold dK;simp only[aT,h0',Bool.true_and];rw[Bool.eq_false_iff];intro q;simp only[Bool.and_eq_true]at q;simp only[nn,List.cons_append,List.nil_append,Bool.or_eq_true,aR,ne_eq]at q;have q1:aL x2 x4 l2 x3.toNat≤524288∧aL x2 x4 l2 x3.toNat≤8*x7:=q;omega);(simp only[aJ];exact⟨lT h0' key,trivial⟩)
  refine aF jL (fun h14=>?_) (fun h14=>?_)
  ·skip
   refine aH aO6 ?_
   unfold bW at h0;unfold cB at h1;unfold cE at h2;unfold cG at h3;unfold cI at h4;unfold cH at h5;unfold cP at h6;unfold cK at h7;unfold cR at h8;unfold dO at h9;unfold eM at h10;unfold hZ at h11;unfold gL at h12;unfold gE at h13;unfold jL at h14;replace h0:B.den G (dM ([x0,x1,x2,x3,x4,x5,x6,x7]++[l0,l1,l2,l3,l4,l5])) bQ=true:=h0;obtain⟨⟨t0,t1,t2,t3,t4⟩,⟨e0,e1,e2,e3,e4⟩,⟨f0,f1,f2,f3,f4⟩,⟨g1,g2,g3,g4⟩,w1,w2,w3,w4⟩:=bE h0;have h0':=h0;clear h0;simp only[nn,List.cons_append,List.nil_append,Bool.or_eq_true,aR,ne_eq]at h1 h2 h3 h4 h5 h6 h7 h8 h9 h10 h11 h12 h13 h14;(try simp (disch:=omega) only[w1,w2,w3,w4]at h1 h2 h3 h4 h5 h6 h7 h8 h9 h10 h11 h12 h13 h14);(try simp (disch:=omega) only[Int.tdiv_eq_ediv_of_nonneg]at *);simp only[bI];have key:aL x2 x4 l2 x3.toNat≤524288∧8*x7<aL x2 x4 l2 x3.toNat:=(by generalize aL x2 x4 l2 x3.toNat=a at *;generalize aL x2 x4 l2 0=a0 at *;generalize aL x2 x4 l2 1=a1 at *;generalize aL x2 x4 l2 2=a2 at *;generalize aL x2 x4 l2 3=a3 at *;generalize aL x2 x4 l2 4=a4 at *;generalize G 83 [l2,0,0]=c0 at *;generalize G 83 [l2,1,0]=c1 at *;generalize G 83 [l2,2,0]=c2 at *;generalize G 83 [l2,3,0]=c3 at *;omega);refine⟨?_,?_⟩;(show B.den G _ dK=false;unfold dK;simp only[aT,h0',Bool.true_and];rw[Bool.eq_false_iff];intro q;simp only[Bool.and_eq_true]at q;simp only[nn,List.cons_append,List.nil_append,Bool.or_eq_true,aR,ne_eq]at q;have q1:aL x2 x4 l2 x3.toNat≤524288∧aL x2 x4 l2 x3.toNat≤8*x7:=q;omega);(simp only[aJ];exact⟨gY h0' key.1,trivial⟩)
  refine aH aNM ?_
  unfold bW at h0;unfold cB at h1;unfold cE at h2;unfold cG at h3;unfold cI at h4;unfold cH at h5;unfold cP at h6;unfold cK at h7;unfold cR at h8;unfold dO at h9;unfold eM at h10;unfold hZ at h11;unfold gL at h12;unfold gE at h13;unfold jL at h14;replace h0:B.den G (dM ([x0,x1,x2,x3,x4,x5,x6,x7]++[l0,l1,l2,l3,l4,l5])) bQ=true:=h0;obtain⟨⟨t0,t1,t2,t3,t4⟩,⟨e0,e1,e2,e3,e4⟩,⟨f0,f1,f2,f3,f4⟩,⟨g1,g2,g3,g4⟩,w1,w2,w3,w4⟩:=bE h0;simp only[bI];refine⟨?_,trivial⟩;show B.den G _ dK=true;unfold dK;simp only[aT,h0,Bool.true_and,Bool.and_eq_true];clear h0;simp only[nn,List.cons_append,List.nil_append,Bool.or_eq_true,aR,ne_eq]at h1 h2 h3 h4 h5 h6 h7 h8 h9 h10 h11 h12 h13 h14;(try simp (disch:=omega) only[w1,w2,w3,w4]at h1 h2 h3 h4 h5 h6 h7 h8 h9 h10 h11 h12 h13 h14);(try simp (disch:=omega) only[Int.tdiv_eq_ediv_of_nonneg]at *);simp only[nn,List.cons_append,List.nil_append,Bool.or_eq_true,aR,ne_eq];show aL x2 x4 l2 x3.toNat≤524288∧aL x2 x4 l2 x3.toNat≤8*x7;generalize aL x2 x4 l2 x3.toNat=a at *;generalize aL x2 x4 l2 0=a0 at *;generalize aL x2 x4 l2 1=a1 at *;generalize aL x2 x4 l2 2=a2 at *;generalize aL x2 x4 l2 3=a3 at *;generalize aL x2 x4 l2 4=a4 at *;generalize G 83 [l2,0,0]=c0 at *;generalize G 83 [l2,1,0]=c1 at *;generalize G 83 [l2,2,0]=c2 at *;generalize G 83 [l2,3,0]=c3 at *;omega
 refine aF gL (fun h12=>?_) (fun h12=>?_)
 rotate_left
 ·skip
  refine aU ?_
  unfold bW at h0;unfold cB at h1;unfold cE at h2;unfold cG at h3;unfold cI at h4;unfold cH at h5;unfold cP at h6;unfold cK at h7;unfold cR at h8;unfold dO at h9;unfold eM at h10;unfold hZ at h11;unfold gL at h12;replace h0:B.den G (dM ([x0,x1,x2,x3,x4,x5,x6,x7]++[l0,l1,l2,l3,l4,l5])) bQ=true:=h0;obtain⟨⟨t0,t1,t2,t3,t4⟩,⟨e0,e1,e2,e3,e4⟩,⟨f0,f1,f2,f3,f4⟩,⟨g1,g2,g3,g4⟩,w1,w2,w3,w4⟩:=bE h0;exfalso;clear h0;simp only[nn,List.cons_append,List.nil_append,Bool.or_eq_true,aR,ne_eq]at h1 h2 h3 h4 h5 h6 h7 h8 h9 h10 h11 h12;(try simp (disch:=omega) only[w1,w2,w3,w4]at h1 h2 h3 h4 h5 h6 h7 h8 h9 h10 h11 h12);generalize aL x2 x4 l2 x3.toNat=a at *;generalize aL x2 x4 l2 0=a0 at *;generalize aL x2 x4 l2 1=a1 at *;generalize aL x2 x4 l2 2=a2 at *;generalize aL x2 x4 l2 3=a3 at *;generalize aL x2 x4 l2 4=a4 at *;generalize G 83 [l2,0,0]=c0 at *;generalize G 83 [l2,1,0]=c1 at *;generalize G 83 [l2,2,0]=c2 at *;generalize G 83 [l2,3,0]=c3 at *;omega
 refine aF gE (fun h13=>?_) (fun h13=>?_)
 ·skip
  refine aH aOe ?_
  unfold bW at h0;unfold cB at h1;unfold cE at h2;unfold cG at h3;unfold cI at h4;unfold cH at h5;unfold cP at h6;unfold cK at h7;unfold cR at h8;unfold dO at h9;unfold eM at h10;unfold hZ at h11;unfold gL at h12;unfold gE at h13;replace h0:B.den G (dM ([x0,x1,x2,x3,x4,x5,x6,x7]++[l0,l1,l2,l3,l4,l5])) bQ=true:=h0;obtain⟨⟨t0,t1,t2,t3,t4⟩,⟨e0,e1,e2,e3,e4⟩,⟨f0,f1,f2,f3,f4⟩,⟨g1,g2,g3,g4⟩,w1,w2,w3,w4⟩:=bE h0;have h0':=h0;clear h0;simp only[nn,List.cons_append,List.nil_append,Bool.or_eq_true,aR,ne_eq]at h1 h2 h3 h4 h5 h6 h7 h8 h9 h10 h11 h12 h13;(try simp (disch:=omega) only[w1,w2,w3,w4]at h1 h2 h3 h4 h5 h6 h7 h8 h9 h10 h11 h12 h13);(try simp (disch:=omega) only[Int.tdiv_eq_ediv_of_nonneg]at *);simp only[bI];have key:524288<aL x2 x4 l2 x3.toNat:=(by generalize aL x2 x4 l2 x3.toNat=a at *;generalize aL x2 x4 l2 0=a0 at *;generalize aL x2 x4 l2 1=a1 at *;generalize aL x2 x4 l2 2=a2 at *;generalize aL x2 x4 l2 3=a3 at *;generalize aL x2 x4 l2 4=a4 at *;generalize G 83 [l2,0,0]=c0 at *;generalize G 83 [l2,1,0]=c1 at *;generalize G 83 [l2,2,0]=c2 at *;generalize G 83 [l2,3,0]=c3 at *;omega);refine⟨?_,?_⟩;(show B.den G _ dK=false;unfold dK;simp only[aT,h0',Bool.true_and];rw[Bool.eq_false_iff];intro q;simp only[Bool.and_eq_true]at q;simp only[nn,List.cons_append,List.nil_append,Bool.or_eq_true,aR,ne_eq]at q;have q1:aL x2 x4 l2 x3.toNat≤524288∧aL x2 x4 l2 x3.toNat≤8*x7:=q;omega);(simp only[aJ];exact⟨lT h0' key,trivial⟩)
 refine aF jL (fun h14=>?_) (fun h14=>?_)
 ·skip
  refine aH aLY ?_
  unfold bW at h0;unfold cB at h1;unfold cE at h2;unfold cG at h3;unfold cI at h4;unfold cH at h5;unfold cP at h6;unfold cK at h7;unfold cR at h8;unfold dO at h9;unfold eM at h10;unfold hZ at h11;unfold gL at h12;unfold gE at h13;unfold jL at h14;replace h0:B.den G (dM ([x0,x1,x2,x3,x4,x5,x6,x7]++[l0,l1,l2,l3,l4,l5])) bQ=true:=h0;obtain⟨⟨t0,t1,t2,t3,t4⟩,⟨e0,e1,e2,e3,e4⟩,⟨f0,f1,f2,f3,f4⟩,⟨g1,g2,g3,g4⟩,w1,w2,w3,w4⟩:=bE h0;have h0':=h0;clear h0;simp only[nn,List.cons_append,List.nil_append,Bool.or_eq_true,aR,ne_eq]at h1 h2 h3 h4 h5 h6 h7 h8 h9 h10 h11 h12 h13 h14;(try simp (disch:=omega) only[w1,w2,w3,w4]at h1 h2 h3 h4 h5 h6 h7 h8 h9 h10 h11 h12 h13 h14);(try simp (disch:=omega) only[Int.tdiv_eq_ediv_of_nonneg]at *);simp only[bI];have key:aL x2 x4 l2 x3.toNat≤524288∧8*x7<aL x2 x4 l2 x3.toNat:=(by generalize aL x2 x4 l2 x3.toNat=a at *;generalize aL x2 x4 l2 0=a0 at *;generalize aL x2 x4 l2 1=a1 at *;generalize aL x2 x4 l2 2=a2 at *;generalize aL x2 x4 l2 3=a3 at *;generalize aL x2 x4 l2 4=a4 at *;generalize G 83 [l2,0,0]=c0 at *;generalize G 83 [l2,1,0]=c1 at *;generalize G 83 [l2,2,0]=c2 at *;generalize G 83 [l2,3,0]=c3 at *;omega);refine⟨?_,?_⟩;(show B.den G _ dK=false;unfold dK;simp only[aT,h0',Bool.true_and];rw[Bool.eq_false_iff];intro q;simp only[Bool.and_eq_true]at q;simp only[nn,List.cons_append,List.nil_append,Bool.or_eq_true,aR,ne_eq]at q;have q1:aL x2 x4 l2 x3.toNat≤524288∧aL x2 x4 l2 x3.toNat≤8*x7:=q;omega);(simp only[aJ];exact⟨gY h0' key.1,trivial⟩)
 refine aH aNy ?_
 unfold bW at h0;unfold cB at h1;unfold cE at h2;unfold cG at h3;unfold cI at h4;unfold cH at h5;unfold cP at h6;unfold cK at h7;unfold cR at h8;unfold dO at h9;unfold eM at h10;unfold hZ at h11;unfold gL at h12;unfold gE at h13;unfold jL at h14;replace h0:B.den G (dM ([x0,x1,x2,x3,x4,x5,x6,x7]++[l0,l1,l2,l3,l4,l5])) bQ=true:=h0;obtain⟨⟨t0,t1,t2,t3,t4⟩,⟨e0,e1,e2,e3,e4⟩,⟨f0,f1,f2,f3,f4⟩,⟨g1,g2,g3,g4⟩,w1,w2,w3,w4⟩:=bE h0;simp only[bI];refine⟨?_,trivial⟩;show B.den G _ dK=true;unfold dK;simp only[aT,h0,Bool.true_and,Bool.and_eq_true];clear h0;simp only[nn,List.cons_append,List.nil_append,Bool.or_eq_true,aR,ne_eq]at h1 h2 h3 h4 h5 h6 h7 h8 h9 h10 h11 h12 h13 h14;(try simp (disch:=omega) only[w1,w2,w3,w4]at h1 h2 h3 h4 h5 h6 h7 h8 h9 h10 h11 h12 h13 h14);(try simp (disch:=omega) only[Int.tdiv_eq_ediv_of_nonneg]at *);simp only[nn,List.cons_append,List.nil_append,Bool.or_eq_true,aR,ne_eq];show aL x2 x4 l2 x3.toNat≤524288∧aL x2 x4 l2 x3.toNat≤8*x7;generalize aL x2 x4 l2 x3.toNat=a at *;generalize aL x2 x4 l2 0=a0 at *;generalize aL x2 x4 l2 1=a1 at *;generalize aL x2 x4 l2 2=a2 at *;generalize aL x2 x4 l2 3=a3 at *;generalize aL x2 x4 l2 4=a4 at *;generalize G 83 [l2,0,0]=c0 at *;generalize G 83 [l2,1,0]=c1 at *;generalize G 83 [l2,2,0]=c2 at *;generalize G 83 [l2,3,0]=c3 at *;omega
def aDp:Ctx→List SV→aM→Res (SV × aM):=eA GB [(0,255),(0,8),(0,8),(0,8),((-9223372036854775808),9223372036854775807),(0,8),(0,8),(0,70000)] 6 (.lit true) aRT
theorem aTz {X:Ctx} {ρ:Nat→Int} (hX:X.Ok ρ) (hG:X.G=G):eT Try.prog X ρ GB 13 aDp:=by
 obtain⟨XG,XI,XV,XF⟩:=X
 simp only at hG
 subst hG
 refine cU hX ?_
 intro xs ls hw hl hp
 obtain⟨x0,y0,e0,b0,h0⟩:=aY hw
 obtain⟨x1,y1,e1,b1,h1⟩:=aY h0
 obtain⟨x2,y2,e2,b2,h2⟩:=aY h1
 obtain⟨x3,y3,e3,b3,h3⟩:=aY h2
 obtain⟨x4,y4,e4,b4,h4⟩:=aY h3
 obtain⟨x5,y5,e5,b5,h5⟩:=aY h4
 obtain⟨x6,y6,e6,b6,h6⟩:=aY h5
 obtain⟨x7,y7,e7,b7,h7⟩:=aY h6
 have e8:=kG h7
 subst e8 e7 e6 e5 e4 e3 e2 e1 e0
 obtain⟨l0,z0,q0,hl0⟩:=bL hl
 obtain⟨l1,z1,q1,hl1⟩:=bL hl0
 obtain⟨l2,z2,q2,hl2⟩:=bL hl1
 obtain⟨l3,z3,q3,hl3⟩:=bL hl2
 obtain⟨l4,z4,q4,hl4⟩:=bL hl3
 obtain⟨l5,z5,q5,hl5⟩:=bL hl4
 have q6:=List.length_eq_zero_iff.1 hl5
 subst q6 q5 q4 q3 q2 q1 q0
 exact aSA x0 x1 x2 x3 x4 x5 x6 x7 l0 l1 l2 l3 l4 l5 b0 b1 b2 b3 b4 b5 b6 b7
def aQ3:bA:=gF 13 aDp aJT
theorem aKj {X:Ctx} {ρ:Nat→Int} (hX:X.Ok ρ) (hG:X.G=G):fL Try.prog X ρ GB aQ3:=eF (aTz hX hG) (aDj hX hG)
theorem aAI (B i:Int):0≤G 84 [B,i,0]∧G 84 [B,i,0]<256:=by
 have:=iE .u8 (Lc.rd3 [B,i,0])
 have e:G 84 [B,i,0]=IntKind.u8.wrap (Lc.rd3 [B,i,0]):=rfl
 rw[e]
 have h1:IntKind.u8.min=0:=rfl
 have h2:IntKind.u8.max=255:=rfl
 omega
theorem aDz (c:Int) (hc:0≤c∧c<256):bZ .or .u64 0 c=c:=by
 have:=aE7 0 c ⟨by decide,by decide⟩ hc
 simpa using this
theorem zU {B nB a n v:Int} {k:Nat} (ha:0≤a) (hn:1≤n∧n≤16) (hi:a≤8*nB-n) (hk:(a+n+7) / 8-a / 8=k) (hv:v=aA5 B (a / 8) k) (hb:0≤v∧v<4294967296):
  bZ .and .u64 (Int.fdiv v (1*2 ^ (bZ .and .i64 (0-(a+n)) 7).toNat)) (1*2 ^ n.toNat-1)=G 67 [B,nB,a,n]:=by
 rw[aQJ,Int.one_mul]
 have p:(0:Int)<2 ^ ((0-(a+n)) % 8).toNat:=Int.pow_pos (by decide)
 rw[Int.fdiv_eq_ediv_of_nonneg _ (by omega)]
 have d0:=Int.ediv_nonneg hb.1 (show (0:Int)≤2 ^ ((0-(a+n)) % 8).toNat by omega)
 have d1:=Int.ediv_le_self (2 ^ ((0-(a+n)) % 8).toNat) hb.1
 rw[aOR _ n.toNat (by omega) ⟨d0,by omega⟩]
 show _=sV B nB a n
 unfold sV
 rw[if_neg (by omega),hk,Int.toNat_natCast,←hv]
 have q1:(2:Int) ^ n.toNat≤65536:=by
  have:2 ^ n.toNat≤2 ^ 16:=Nat.pow_le_pow_right (by decide) (by omega)
  have c:((2 ^ n.toNat:Nat):Int)=2 ^ n.toNat:=by rw[Int.natCast_pow];rfl
  omega
 have q0:(0:Int)<2 ^ n.toNat:=Int.pow_pos (by decide)
 generalize v / 2 ^ ((0-(a+n)) % 8).toNat=w at *
 have r0:=Int.emod_nonneg w (show (2:Int) ^ n.toNat≠0 by omega)
 have r1:=Int.emod_lt_of_pos w q0
 unfold jZ
 omega
section
variable {B nB a n:Int}
theorem aTF (ha:0≤a) (hn:1≤n∧n≤16) (hi:a≤8*nB-n) (hk:Int.tdiv (a+n+8-1) 8-Int.tdiv a 8=1):
  bZ .and .u64 (Int.fdiv (bZ .or .u64 0 (G 84 [B,Int.tdiv a 8,0])) (1*2 ^ (bZ .and .i64 (0-(a+n)) 7).toNat)) (1*2 ^ n.toNat-1)=G 67 [B,nB,a,n]:=by
 rw[Int.tdiv_eq_ediv_of_nonneg ha,Int.tdiv_eq_ediv_of_nonneg (by omega)]at hk
 rw[Int.tdiv_eq_ediv_of_nonneg ha]
 have b0:=aAI B (a / 8)
 rw[aDz _ b0]
 refine zU (k:=1) ha hn hi (by omega) ?_ ⟨b0.1,by omega⟩
 show _=0*256+r8 B (a / 8+0) 0
 rw[Int.add_zero,Int.zero_mul,Int.zero_add];rfl
theorem aTI (ha:0≤a) (hn:1≤n∧n≤16) (hi:a≤8*nB-n) (hk:Int.tdiv (a+n+8-1) 8-Int.tdiv a 8=2):
  bZ .and .u64 (Int.fdiv (bZ .or .u64 (IntKind.u64.wrap (bZ .or .u64 0 (G 84 [B,Int.tdiv a 8,0])*256)) (G 84 [B,Int.tdiv a 8+1,0])) (1*2 ^ (bZ .and .i64 (0-(a+n)) 7).toNat)) (1*2 ^ n.toNat-1)=G 67 [B,nB,a,n]:=by
 rw[Int.tdiv_eq_ediv_of_nonneg ha,Int.tdiv_eq_ediv_of_nonneg (by omega)]at hk
 rw[Int.tdiv_eq_ediv_of_nonneg ha]
 have b0:=aAI B (a / 8)
 have b1:=aAI B (a / 8+1)
 rw[aDz _ b0,IntKind.wrap_u64,Int.emod_eq_of_lt (by omega) (by omega),aE7 _ _ ⟨b0.1,by omega⟩ b1]
 refine zU (k:=2) ha hn hi (by omega) ?_ ⟨by omega,by omega⟩
 show _=(0*256+r8 B (a / 8+0) 0)*256+r8 B (a / 8+1) 0
 rw[Int.add_zero,Int.zero_mul,Int.zero_add];rfl
theorem aTO (ha:0≤a) (hn:1≤n∧n≤16) (hi:a≤8*nB-n) (hk:Int.tdiv (a+n+8-1) 8-Int.tdiv a 8=3):
  bZ .and .u64 (Int.fdiv (bZ .or .u64 (IntKind.u64.wrap (bZ .or .u64 (IntKind.u64.wrap (bZ .or .u64 0 (G 84 [B,Int.tdiv a 8,0])*256)) (G 84 [B,Int.tdiv a 8+1,0])*256)) (G 84 [B,Int.tdiv a 8+2,0])) (1*2 ^ (bZ .and .i64 (0-(a+n)) 7).toNat)) (1*2 ^ n.toNat-1)=G 67 [B,nB,a,n]:=by
 rw[Int.tdiv_eq_ediv_of_nonneg ha,Int.tdiv_eq_ediv_of_nonneg (by omega)]at hk
 rw[Int.tdiv_eq_ediv_of_nonneg ha]
 have b0:=aAI B (a / 8)
 have b1:=aAI B (a / 8+1)
 have b2:=aAI B (a / 8+2)
 have w1:IntKind.u64.wrap (G 84 [B,a / 8,0]*256)=G 84 [B,a / 8,0]*256:=by rw[IntKind.wrap_u64];exact Int.emod_eq_of_lt (by omega) (by omega)
 have w2:IntKind.u64.wrap ((G 84 [B,a / 8,0]*256+G 84 [B,a / 8+1,0])*256)=(G 84 [B,a / 8,0]*256+G 84 [B,a / 8+1,0])*256:=by rw[IntKind.wrap_u64];exact Int.emod_eq_of_lt (by omega) (by omega)
 rw[aDz _ b0,w1,aE7 _ _ ⟨b0.1,by omega⟩ b1,w2,aE7 _ _ ⟨by omega,by omega⟩ b2]
 refine zU (k:=3) ha hn hi (by omega) ?_ ⟨by omega,by omega⟩
 show _=((0*256+r8 B (a / 8+0) 0)*256+r8 B (a / 8+1) 0)*256+r8 B (a / 8+2) 0
 rw[Int.add_zero,Int.zero_mul,Int.zero_add];rfl
theorem aSv (h:8*nB-n<a):(0:Int)=G 67 [B,nB,a,n]∧(5:Int)=G 69 [nB,a,n]:=by
 refine⟨?_,?_⟩
 ·show _=sV B nB a n
  unfold sV
  rw[if_pos (.inr (.inr (.inr h)))]
 ·show _=if 8*nB-n<a then (5:Int) else 0
  rw[if_pos h]
theorem aAV (h:a≤8*nB-n):(0:Int)=G 69 [nB,a,n]:=by
 show _=if 8*nB-n<a then (5:Int) else 0
 rw[if_neg (by omega)]
end
end Go.Proofs.Ytdldallkeheciaa
