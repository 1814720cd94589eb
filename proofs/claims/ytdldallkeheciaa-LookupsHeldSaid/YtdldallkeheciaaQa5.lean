/- What is proved: what some functions leave,as it is told. No condition but the numbers' own bounds. -/
import Derived.Test.YtdldallkeheciaaQNn
import Derived.Test.YtdldallkeheciaaQa1
import Derived.Test.YtdldallkeheciaaQa4
set_option linter.unusedSimpArgs false
set_option linter.unusedVariables false
namespace Go.Proofs.Ytdldallkeheciaa
open Go Go.RowKit Sx Wi Lk
theorem bF {x0 x1 x2 x3 x4 x5 x6 x7 l0 l1 l2:Int} {ls:List Int} (h0:B.den G (cQ ([x0,x1,x2,x3,x4,x5,x6,x7]++(l0::l1::l2::ls))) bU=true):(x0=1∧(1≤x1∧x1≤4)∧(1≤x2∧x2≤4)∧x3=x1∧(x4=1∨x4=2∨x4=4∨x4=8∨x4=12∨x4=16))∧(aL x2 x4 l2 0=x2*x4∧aL x2 x4 l2 1=x2*x4*G 83 [l2,0,0]∧aL x2 x4 l2 2=x2*x4*G 83 [l2,0,0]*G 83 [l2,1,0]∧aL x2 x4 l2 3=x2*x4*G 83 [l2,0,0]*G 83 [l2,1,0]*G 83 [l2,2,0]∧aL x2 x4 l2 4=x2*x4*G 83 [l2,0,0]*G 83 [l2,1,0]*G 83 [l2,2,0]*G 83 [l2,3,0])∧(((0:Int)≤x3→1≤aL x2 x4 l2 0∧aL x2 x4 l2 0≤64∧aL x2 x4 l2 0≤aL x2 x4 l2 x3.toNat)∧((1:Int)≤x3→1≤aL x2 x4 l2 1∧aL x2 x4 l2 1≤64*256∧aL x2 x4 l2 1≤aL x2 x4 l2 x3.toNat)∧((2:Int)≤x3→1≤aL x2 x4 l2 2∧aL x2 x4 l2 2≤64*65536∧aL x2 x4 l2 2≤aL x2 x4 l2 x3.toNat)∧((3:Int)≤x3→1≤aL x2 x4 l2 3∧aL x2 x4 l2 3≤64*16777216∧aL x2 x4 l2 3≤aL x2 x4 l2 x3.toNat)∧((4:Int)≤x3→1≤aL x2 x4 l2 4∧aL x2 x4 l2 4≤64*4294967296∧aL x2 x4 l2 4≤aL x2 x4 l2 x3.toNat))∧((x3=1→aL x2 x4 l2 x3.toNat=aL x2 x4 l2 1)∧(x3=2→aL x2 x4 l2 x3.toNat=aL x2 x4 l2 2)∧(x3=3→aL x2 x4 l2 x3.toNat=aL x2 x4 l2 3)∧(x3=4→aL x2 x4 l2 x3.toNat=aL x2 x4 l2 4))∧((1:Int)≤x3→IntKind.i64.wrap (x2*x4*G 83 [l2,0,0])=x2*x4*G 83 [l2,0,0])∧((2:Int)≤x3→IntKind.i64.wrap (x2*x4*G 83 [l2,0,0]*G 83 [l2,1,0])=x2*x4*G 83 [l2,0,0]*G 83 [l2,1,0])∧((3:Int)≤x3→IntKind.i64.wrap (x2*x4*G 83 [l2,0,0]*G 83 [l2,1,0]*G 83 [l2,2,0])=x2*x4*G 83 [l2,0,0]*G 83 [l2,1,0]*G 83 [l2,2,0])∧((4:Int)≤x3→IntKind.i64.wrap (x2*x4*G 83 [l2,0,0]*G 83 [l2,1,0]*G 83 [l2,2,0]*G 83 [l2,3,0])=x2*x4*G 83 [l2,0,0]*G 83 [l2,1,0]*G 83 [l2,2,0]*G 83 [l2,3,0]):=by
 have tb:=mY h0
 obtain⟨pb,pc⟩:=aHJ tb
 obtain⟨t0,t1,_,t2,_,t3,_,t4,_⟩:=tb
 have f0:=pc 0
 have f1:=pc 1
 have f2:=pc 2
 have f3:=pc 3
 have f4:=pc 4
 have e0:aL x2 x4 l2 0=x2*x4:=rfl
 have e1:aL x2 x4 l2 1=x2*x4*G 83 [l2,0,0]:=rfl
 have e2:aL x2 x4 l2 2=x2*x4*G 83 [l2,0,0]*G 83 [l2,1,0]:=rfl
 have e3:aL x2 x4 l2 3=x2*x4*G 83 [l2,0,0]*G 83 [l2,1,0]*G 83 [l2,2,0]:=rfl
 have e4:aL x2 x4 l2 4=x2*x4*G 83 [l2,0,0]*G 83 [l2,1,0]*G 83 [l2,2,0]*G 83 [l2,3,0]:=rfl
 have en:∀ k:Nat,x3=k→aL x2 x4 l2 x3.toNat=aL x2 x4 l2 k:=(fun k q=>by rw[q];rfl)
 have g1:=en 1
 have g2:=en 2
 have g3:=en 3
 have g4:=en 4
 simp only[show (256:Int) ^ 0=1 from rfl,show (256:Int) ^ 1=256 from rfl,show (256:Int) ^ 2=65536 from rfl,show (256:Int) ^ 3=16777216 from rfl,show (256:Int) ^ 4=4294967296 from rfl,Int.cast_ofNat_Int,Int.natCast_zero,Int.natCast_one,Int.ofNat_zero]at f0 f1 f2 f3 f4 g1 g2 g3 g4
 refine⟨⟨t0,t1,t2,t3,t4⟩,⟨e0,e1,e2,e3,e4⟩,⟨f0,f1,f2,f3,f4⟩,⟨g1,g2,g3,g4⟩,?_,?_,?_,?_⟩
 ·intro q;have f:=f1 q;rw[←e1];exact gN .i64 _ (show (-9223372036854775808:Int)≤_ by omega) (show _≤(9223372036854775807:Int)by omega)
 ·intro q;have f:=f2 q;rw[←e2];exact gN .i64 _ (show (-9223372036854775808:Int)≤_ by omega) (show _≤(9223372036854775807:Int)by omega)
 ·intro q;have f:=f3 q;rw[←e3];exact gN .i64 _ (show (-9223372036854775808:Int)≤_ by omega) (show _≤(9223372036854775807:Int)by omega)
 ·intro q;have f:=f4 q;rw[←e4];exact gN .i64 _ (show (-9223372036854775808:Int)≤_ by omega) (show _≤(9223372036854775807:Int)by omega)
set_option maxHeartbeats 8000000 in
set_option maxRecDepth 100000 in
theorem aTa (x0 x1 x2 x3 x4 x5 x6 x7 l0 l1 l2 l3 l4 l5:Int) (b0:0≤x0∧x0≤255) (b1:0≤x1∧x1≤8) (b2:0≤x2∧x2≤8) (b3:0≤x3∧x3≤8) (b4:(-9223372036854775808)≤x4∧x4≤9223372036854775807) (b5:0≤x5∧x5≤8) (b6:0≤x6∧x6≤8) (b7:0≤x7∧x7≤70000):fX Try.prog G GB 13 aTK (cQ ([x0,x1,x2,x3,x4,x5,x6,x7]++[l0,l1,l2,l3,l4,l5])):=by
 refine cY (lp:=dO) (run:=aKm Try.prog) (fun _=>rfl) fits (bP (xs:=[x0,x1,x2,x3,x4,x5,x6,x7]) (ls:=[l0,l1,l2,l3,l4,l5]) (by exact⟨b0,b1,b2,b3,b4,b5,b6,b7,trivial⟩)) eU (fun X hX hG=>aDR hX hG) (fun X hX hG fn c hf hc=>cF) rfl ?_
 refine aG bY (fun h0=>?_) (fun h0=>?_)
 rotate_left
 ·skip
  refine aH aR2 ?_
  unfold bY at h0;replace h0:B.den G (cQ ([x0,x1,x2,x3,x4,x5,x6,x7]++[l0,l1,l2,l3,l4,l5])) bU=false:=h0;simp only[bK];refine⟨?_,?_⟩;(show B.den G _ dM=false;unfold dM;simp only[aZ,h0,Bool.false_and]);(simp only[aI];exact⟨aKI h0,trivial⟩)
 refine aG cC (fun h1=>?_) (fun h1=>?_)
 rotate_left
 ·skip
  refine aQ ?_
  unfold bY at h0;unfold cC at h1;replace h0:B.den G (cQ ([x0,x1,x2,x3,x4,x5,x6,x7]++[l0,l1,l2,l3,l4,l5])) bU=true:=h0;obtain⟨⟨t0,t1,t2,t3,t4⟩,⟨e0,e1,e2,e3,e4⟩,⟨f0,f1,f2,f3,f4⟩,⟨g1,g2,g3,g4⟩,w1,w2,w3,w4⟩:=bF h0;exfalso;clear h0;simp only[nn,List.cons_append,List.nil_append,Bool.or_eq_true,aP,ne_eq]at h1;(try simp (disch:=omega) only[w1,w2,w3,w4]at h1);generalize aL x2 x4 l2 x3.toNat=a at *;generalize aL x2 x4 l2 0=a0 at *;generalize aL x2 x4 l2 1=a1 at *;generalize aL x2 x4 l2 2=a2 at *;generalize aL x2 x4 l2 3=a3 at *;generalize aL x2 x4 l2 4=a4 at *;generalize G 83 [l2,0,0]=c0 at *;generalize G 83 [l2,1,0]=c1 at *;generalize G 83 [l2,2,0]=c2 at *;generalize G 83 [l2,3,0]=c3 at *;omega
 refine aG cE (fun h2=>?_) (fun h2=>?_)
 rotate_left
 ·skip
  refine aQ ?_
  unfold bY at h0;unfold cC at h1;unfold cE at h2;replace h0:B.den G (cQ ([x0,x1,x2,x3,x4,x5,x6,x7]++[l0,l1,l2,l3,l4,l5])) bU=true:=h0;obtain⟨⟨t0,t1,t2,t3,t4⟩,⟨e0,e1,e2,e3,e4⟩,⟨f0,f1,f2,f3,f4⟩,⟨g1,g2,g3,g4⟩,w1,w2,w3,w4⟩:=bF h0;exfalso;clear h0;simp only[nn,List.cons_append,List.nil_append,Bool.or_eq_true,aP,ne_eq]at h1 h2;(try simp (disch:=omega) only[w1,w2,w3,w4]at h1 h2);generalize aL x2 x4 l2 x3.toNat=a at *;generalize aL x2 x4 l2 0=a0 at *;generalize aL x2 x4 l2 1=a1 at *;generalize aL x2 x4 l2 2=a2 at *;generalize aL x2 x4 l2 3=a3 at *;generalize aL x2 x4 l2 4=a4 at *;generalize G 83 [l2,0,0]=c0 at *;generalize G 83 [l2,1,0]=c1 at *;generalize G 83 [l2,2,0]=c2 at *;generalize G 83 [l2,3,0]=c3 at *;omega
 refine aG cH (fun h3=>?_) (fun h3=>?_)
 rotate_left
 ·skip
  refine aQ ?_
  unfold bY at h0;unfold cC at h1;unfold cE at h2;unfold cH at h3;replace h0:B.den G (cQ ([x0,x1,x2,x3,x4,x5,x6,x7]++[l0,l1,l2,l3,l4,l5])) bU=true:=h0;obtain⟨⟨t0,t1,t2,t3,t4⟩,⟨e0,e1,e2,e3,e4⟩,⟨f0,f1,f2,f3,f4⟩,⟨g1,g2,g3,g4⟩,w1,w2,w3,w4⟩:=bF h0;exfalso;clear h0;simp only[nn,List.cons_append,List.nil_append,Bool.or_eq_true,aP,ne_eq]at h1 h2 h3;(try simp (disch:=omega) only[w1,w2,w3,w4]at h1 h2 h3);generalize aL x2 x4 l2 x3.toNat=a at *;generalize aL x2 x4 l2 0=a0 at *;generalize aL x2 x4 l2 1=a1 at *;generalize aL x2 x4 l2 2=a2 at *;generalize aL x2 x4 l2 3=a3 at *;generalize aL x2 x4 l2 4=a4 at *;generalize G 83 [l2,0,0]=c0 at *;generalize G 83 [l2,1,0]=c1 at *;generalize G 83 [l2,2,0]=c2 at *;generalize G 83 [l2,3,0]=c3 at *;omega
 refine aG cJ (fun h4=>?_) (fun h4=>?_)
 rotate_left
 ·skip
  refine aQ ?_
  unfold bY at h0;unfold cC at h1;unfold cE at h2;unfold cH at h3;unfold cJ at h4;replace h0:B.den G (cQ ([x0,x1,x2,x3,x4,x5,x6,x7]++[l0,l1,l2,l3,l4,l5])) bU=true:=h0;obtain⟨⟨t0,t1,t2,t3,t4⟩,⟨e0,e1,e2,e3,e4⟩,⟨f0,f1,f2,f3,f4⟩,⟨g1,g2,g3,g4⟩,w1,w2,w3,w4⟩:=bF h0;exfalso;clear h0;simp only[nn,List.cons_append,List.nil_append,Bool.or_eq_true,aP,ne_eq]at h1 h2 h3 h4;(try simp (disch:=omega) only[w1,w2,w3,w4]at h1 h2 h3 h4);generalize aL x2 x4 l2 x3.toNat=a at *;generalize aL x2 x4 l2 0=a0 at *;generalize aL x2 x4 l2 1=a1 at *;generalize aL x2 x4 l2 2=a2 at *;generalize aL x2 x4 l2 3=a3 at *;generalize aL x2 x4 l2 4=a4 at *;generalize G 83 [l2,0,0]=c0 at *;generalize G 83 [l2,1,0]=c1 at *;generalize G 83 [l2,2,0]=c2 at *;generalize G 83 [l2,3,0]=c3 at *;omega
 refine aG cI (fun h5=>?_) (fun h5=>?_)
 ·skip
  refine aG kL (fun h6=>?_) (fun h6=>?_)
  rotate_left
  ·skip
   refine aQ ?_
   unfold bY at h0;unfold cC at h1;unfold cE at h2;unfold cH at h3;unfold cJ at h4;unfold cI at h5;unfold kL at h6;replace h0:B.den G (cQ ([x0,x1,x2,x3,x4,x5,x6,x7]++[l0,l1,l2,l3,l4,l5])) bU=true:=h0;obtain⟨⟨t0,t1,t2,t3,t4⟩,⟨e0,e1,e2,e3,e4⟩,⟨f0,f1,f2,f3,f4⟩,⟨g1,g2,g3,g4⟩,w1,w2,w3,w4⟩:=bF h0;exfalso;clear h0;simp only[nn,List.cons_append,List.nil_append,Bool.or_eq_true,aP,ne_eq]at h1 h2 h3 h4 h5 h6;(try simp (disch:=omega) only[w1,w2,w3,w4]at h1 h2 h3 h4 h5 h6);generalize aL x2 x4 l2 x3.toNat=a at *;generalize aL x2 x4 l2 0=a0 at *;generalize aL x2 x4 l2 1=a1 at *;generalize aL x2 x4 l2 2=a2 at *;generalize aL x2 x4 l2 3=a3 at *;generalize aL x2 x4 l2 4=a4 at *;generalize G 83 [l2,0,0]=c0 at *;generalize G 83 [l2,1,0]=c1 at *;generalize G 83 [l2,2,0]=c2 at *;generalize G 83 [l2,3,0]=c3 at *;omega
  refine aG kM (fun h7=>?_) (fun h7=>?_)
  ·skip
   refine aH aUs ?_
   unfold bY at h0;unfold cC at h1;unfold cE at h2;unfold cH at h3;unfold cJ at h4;unfold cI at h5;unfold kL at h6;unfold kM at h7;replace h0:B.den G (cQ ([x0,x1,x2,x3,x4,x5,x6,x7]++[l0,l1,l2,l3,l4,l5])) bU=true:=h0;obtain⟨⟨t0,t1,t2,t3,t4⟩,⟨e0,e1,e2,e3,e4⟩,⟨f0,f1,f2,f3,f4⟩,⟨g1,g2,g3,g4⟩,w1,w2,w3,w4⟩:=bF h0;have h0':=h0;clear h0;simp only[nn,List.cons_append,List.nil_append,Bool.or_eq_true,aP,ne_eq]at h1 h2 h3 h4 h5 h6 h7;(try simp (disch:=omega) only[w1,w2,w3,w4]at h1 h2 h3 h4 h5 h6 h7);(try simp (disch:=omega) only[Int.tdiv_eq_ediv_of_nonneg]at *);simp only[bK];have key:524288<aL x2 x4 l2 x3.toNat:=(by generalize aL x2 x4 l2 x3.toNat=a at *;generalize aL x2 x4 l2 0=a0 at *;generalize aL x2 x4 l2 1=a1 at *;generalize aL x2 x4 l2 2=a2 at *;generalize aL x2 x4 l2 3=a3 at *;generalize aL x2 x4 l2 4=a4 at *;generalize G 83 [l2,0,0]=c0 at *;generalize G 83 [l2,1,0]=c1 at *;generalize G 83 [l2,2,0]=c2 at *;generalize G 83 [l2,3,0]=c3 at *;omega);refine⟨?_,?_⟩;(show B.den G _ dM=false;unfold dM;simp only[aZ,h0',Bool.true_and];rw[Bool.eq_false_iff];intro q;simp only[Bool.and_eq_true]at q;simp only[nn,List.cons_append,List.nil_append,Bool.or_eq_true,aP,ne_eq]at q;have q1:aL x2 x4 l2 x3.toNat≤524288∧aL x2 x4 l2 x3.toNat≤8*x7:=q;omega);(simp only[aI];exact⟨lT h0' key,trivial⟩)
  refine aG mL (fun h8=>?_) (fun h8=>?_)
  ·skip
   refine aH aNT ?_
   unfold bY at h0;unfold cC at h1;unfold cE at h2;unfold cH at h3;unfold cJ at h4;unfold cI at h5;unfold kL at h6;unfold kM at h7;unfold mL at h8;replace h0:B.den G (cQ ([x0,x1,x2,x3,x4,x5,x6,x7]++[l0,l1,l2,l3,l4,l5])) bU=true:=h0;obtain⟨⟨t0,t1,t2,t3,t4⟩,⟨e0,e1,e2,e3,e4⟩,⟨f0,f1,f2,f3,f4⟩,⟨g1,g2,g3,g4⟩,w1,w2,w3,w4⟩:=bF h0;have h0':=h0;clear h0;simp only[nn,List.cons_append,List.nil_append,Bool.or_eq_true,aP,ne_eq]at h1 h2 h3 h4 h5 h6 h7 h8;(try simp (disch:=omega) only[w1,w2,w3,w4]at h1 h2 h3 h4 h5 h6 h7 h8);(try simp (disch:=omega) only[Int.tdiv_eq_ediv_of_nonneg]at *);simp only[bK];have key:aL x2 x4 l2 x3.toNat≤524288∧8*x7<aL x2 x4 l2 x3.toNat:=(by generalize aL x2 x4 l2 x3.toNat=a at *;generalize aL x2 x4 l2 0=a0 at *;generalize aL x2 x4 l2 1=a1 at *;generalize aL x2 x4 l2 2=a2 at *;generalize aL x2 x4 l2 3=a3 at *;generalize aL x2 x4 l2 4=a4 at *;generalize G 83 [l2,0,0]=c0 at *;generalize G 83 [l2,1,0]=c1 at *;generalize G 83 [l2,2,0]=c2 at *;generalize G 83 [l2,3,0]=c3 at *;omega);refine⟨?_,?_⟩;(show B.den G _ dM=false;unfold dM;simp only[aZ,h0',Bool.true_and];rw[Bool.eq_false_iff];intro q;simp only[Bool.and_eq_true]at q;simp only[nn,List.cons_append,List.nil_append,Bool.or_eq_true,aP,ne_eq]at q;have q1:aL x2 x4 l2 x3.toNat≤524288∧aL x2 x4 l2 x3.toNat≤8*x7:=q;omega);(simp only[aI];exact⟨iI h0' key.1,trivial⟩)
  refine aH aOm ?_
  unfold bY at h0;unfold cC at h1;unfold cE at h2;unfold cH at h3;unfold cJ at h4;unfold cI at h5;unfold kL at h6;unfold kM at h7;unfold mL at h8;replace h0:B.den G (cQ ([x0,x1,x2,x3,x4,x5,x6,x7]++[l0,l1,l2,l3,l4,l5])) bU=true:=h0;obtain⟨⟨t0,t1,t2,t3,t4⟩,⟨e0,e1,e2,e3,e4⟩,⟨f0,f1,f2,f3,f4⟩,⟨g1,g2,g3,g4⟩,w1,w2,w3,w4⟩:=bF h0;simp only[bK];refine⟨?_,trivial⟩;show B.den G _ dM=true;unfold dM;simp only[aZ,h0,Bool.true_and,Bool.and_eq_true];clear h0;simp only[nn,List.cons_append,List.nil_append,Bool.or_eq_true,aP,ne_eq]at h1 h2 h3 h4 h5 h6 h7 h8;(try simp (disch:=omega) only[w1,w2,w3,w4]at h1 h2 h3 h4 h5 h6 h7 h8);(try simp (disch:=omega) only[Int.tdiv_eq_ediv_of_nonneg]at *);simp only[nn,List.cons_append,List.nil_append,Bool.or_eq_true,aP,ne_eq];show aL x2 x4 l2 x3.toNat≤524288∧aL x2 x4 l2 x3.toNat≤8*x7;generalize aL x2 x4 l2 x3.toNat=a at *;generalize aL x2 x4 l2 0=a0 at *;generalize aL x2 x4 l2 1=a1 at *;generalize aL x2 x4 l2 2=a2 at *;generalize aL x2 x4 l2 3=a3 at *;generalize aL x2 x4 l2 4=a4 at *;generalize G 83 [l2,0,0]=c0 at *;generalize G 83 [l2,1,0]=c1 at *;generalize G 83 [l2,2,0]=c2 at *;generalize G 83 [l2,3,0]=c3 at *;omega
 refine aG cR (fun h6=>?_) (fun h6=>?_)
 rotate_left
 ·skip
  refine aG kL (fun h7=>?_) (fun h7=>?_)
  rotate_left
  ·skip
   refine aQ ?_
   unfold bY at h0;unfold cC at h1;unfold cE at h2;unfold cH at h3;unfold cJ at h4;unfold cI at h5;unfold cR at h6;unfold kL at h7;replace h0:B.den G (cQ ([x0,x1,x2,x3,x4,x5,x6,x7]++[l0,l1,l2,l3,l4,l5])) bU=true:=h0;obtain⟨⟨t0,t1,t2,t3,t4⟩,⟨e0,e1,e2,e3,e4⟩,⟨f0,f1,f2,f3,f4⟩,⟨g1,g2,g3,g4⟩,w1,w2,w3,w4⟩:=bF h0;exfalso;clear h0;simp only[nn,List.cons_append,List.nil_append,Bool.or_eq_true,aP,ne_eq]at h1 h2 h3 h4 h5 h6 h7;(try simp (disch:=omega) only[w1,w2,w3,w4]at h1 h2 h3 h4 h5 h6 h7);generalize aL x2 x4 l2 x3.toNat=a at *;generalize aL x2 x4 l2 0=a0 at *;generalize aL x2 x4 l2 1=a1 at *;generalize aL x2 x4 l2 2=a2 at *;generalize aL x2 x4 l2 3=a3 at *;generalize aL x2 x4 l2 4=a4 at *;generalize G 83 [l2,0,0]=c0 at *;generalize G 83 [l2,1,0]=c1 at *;generalize G 83 [l2,2,0]=c2 at *;generalize G 83 [l2,3,0]=c3 at *;omega
  refine aG kM (fun h8=>?_) (fun h8=>?_)
  ·skip
   refine aH aPR ?_
   unfold bY at h0;unfold cC at h1;unfold cE at h2;unfold cH at h3;unfold cJ at h4;unfold cI at h5;unfold cR at h6;unfold kL at h7;unfold kM at h8;replace h0:B.den G (cQ ([x0,x1,x2,x3,x4,x5,x6,x7]++[l0,l1,l2,l3,l4,l5])) bU=true:=h0;obtain⟨⟨t0,t1,t2,t3,t4⟩,⟨e0,e1,e2,e3,e4⟩,⟨f0,f1,f2,f3,f4⟩,⟨g1,g2,g3,g4⟩,w1,w2,w3,w4⟩:=bF h0;have h0':=h0;clear h0;simp only[nn,List.cons_append,List.nil_append,Bool.or_eq_true,aP,ne_eq]at h1 h2 h3 h4 h5 h6 h7 h8;(try simp (disch:=omega) only[w1,w2,w3,w4]at h1 h2 h3 h4 h5 h6 h7 h8);(try simp (disch:=omega) only[Int.tdiv_eq_ediv_of_nonneg]at *);simp only[bK];have key:524288<aL x2 x4 l2 x3.toNat:=(by generalize aL x2 x4 l2 x3.toNat=a at *;generalize aL x2 x4 l2 0=a0 at *;generalize aL x2 x4 l2 1=a1 at *;generalize aL x2 x4 l2 2=a2 at *;generalize aL x2 x4 l2 3=a3 at *;generalize aL x2 x4 l2 4=a4 at *;generalize G 83 [l2,0,0]=c0 at *;generalize G 83 [l2,1,0]=c1 at *;generalize G 83 [l2,2,0]=c2 at *;generalize G 83 [l2,3,0]=c3 at *;omega);refine⟨?_,?_⟩;(show B.den G _ dM=false;unfold dM;simp only[aZ,h0',Bool.true_and];rw[Bool.eq_false_iff];intro q;simp only[Bool.and_eq_true]at q;simp only[nn,List.cons_append,List.nil_append,Bool.or_eq_true,aP,ne_eq]at q;have q1:aL x2 x4 l2 x3.toNat≤524288∧aL x2 x4 l2 x3.toNat≤8*x7:=q;omega);(simp only[aI];exact⟨lT h0' key,trivial⟩)
  refine aG mL (fun h9=>?_) (fun h9=>?_)
  ·skip
   refine aH aN9 ?_
   unfold bY at h0;unfold cC at h1;unfold cE at h2;unfold cH at h3;unfold cJ at h4;unfold cI at h5;unfold cR at h6;unfold kL at h7;unfold kM at h8;unfold mL at h9;replace h0:B.den G (cQ ([x0,x1,x2,x3,x4,x5,x6,x7]++[l0,l1,l2,l3,l4,l5])) bU=true:=h0;obtain⟨⟨t0,t1,t2,t3,t4⟩,⟨e0,e1,e2,e3,e4⟩,⟨f0,f1,f2,f3,f4⟩,⟨g1,g2,g3,g4⟩,w1,w2,w3,w4⟩:=bF h0;have h0':=h0;clear h0;simp only[nn,List.cons_append,List.nil_append,Bool.or_eq_true,aP,ne_eq]at h1 h2 h3 h4 h5 h6 h7 h8 h9;(try simp (disch:=omega) only[w1,w2,w3,w4]at h1 h2 h3 h4 h5 h6 h7 h8 h9);(try simp (disch:=omega) only[Int.tdiv_eq_ediv_of_nonneg]at *);simp only[bK];have key:aL x2 x4 l2 x3.toNat≤524288∧8*x7<aL x2 x4 l2 x3.toNat:=(by generalize aL x2 x4 l2 x3.toNat=a at *;generalize aL x2 x4 l2 0=a0 at *;generalize aL x2 x4 l2 1=a1 at *;generalize aL x2 x4 l2 2=a2 at *;generalize aL x2 x4 l2 3=a3 at *;generalize aL x2 x4 l2 4=a4 at *;generalize G 83 [l2,0,0]=c0 at *;generalize G 83 [l2,1,0]=c1 at *;generalize G 83 [l2,2,0]=c2 at *;generalize G 83 [l2,3,0]=c3 at *;omega);refine⟨?_,?_⟩;(show B.den G _ dM=false;unfold dM;simp only[aZ,h0',Bool.true_and];rw[Bool.eq_false_iff];intro q;simp only[Bool.and_eq_true]at q;simp only[nn,List.cons_append,List.nil_append,Bool.or_eq_true,aP,ne_eq]at q;have q1:aL x2 x4 l2 x3.toNat≤524288∧aL x2 x4 l2 x3.toNat≤8*x7:=q;omega);(simp only[aI];exact⟨iI h0' key.1,trivial⟩)
  refine aH aPb ?_
  unfold bY at h0;unfold cC at h1;unfold cE at h2;unfold cH at h3;unfold cJ at h4;unfold cI at h5;unfold cR at h6;unfold kL at h7;unfold kM at h8;unfold mL at h9;replace h0:B.den G (cQ ([x0,x1,x2,x3,x4,x5,x6,x7]++[l0,l1,l2,l3,l4,l5])) bU=true:=h0;obtain⟨⟨t0,t1,t2,t3,t4⟩,⟨e0,e1,e2,e3,e4⟩,⟨f0,f1,f2,f3,f4⟩,⟨g1,g2,g3,g4⟩,w1,w2,w3,w4⟩:=bF h0;simp only[bK];refine⟨?_,trivial⟩;show B.den G _ dM=true;unfold dM;simp only[aZ,h0,Bool.true_and,Bool.and_eq_true];clear h0;simp only[nn,List.cons_append,List.nil_append,Bool.or_eq_true,aP,ne_eq]at h1 h2 h3 h4 h5 h6 h7 h8 h9;(try simp (disch:=omega) only[w1,w2,w3,w4]at h1 h2 h3 h4 h5 h6 h7 h8 h9);(try simp (disch:=omega) only[Int.tdiv_eq_ediv_of_nonneg]at *);simp only[nn,List.cons_append,List.nil_append,Bool.or_eq_true,aP,ne_eq];show aL x2 x4 l2 x3.toNat≤524288∧aL x2 x4 l2 x3.toNat≤8*x7;generalize aL x2 x4 l2 x3.toNat=a at *;generalize aL x2 x4 l2 0=a0 at *;generalize aL x2 x4 l2 1=a1 at *;generalize aL x2 x4 l2 2=a2 at *;generalize aL x2 x4 l2 3=a3 at *;generalize aL x2 x4 l2 4=a4 at *;generalize G 83 [l2,0,0]=c0 at *;generalize G 83 [l2,1,0]=c1 at *;generalize G 83 [l2,2,0]=c2 at *;generalize G 83 [l2,3,0]=c3 at *;omega
 refine aG cK (fun h7=>?_) (fun h7=>?_)
 ·skip
  refine aG gT (fun h8=>?_) (fun h8=>?_)
  rotate_left
  ·skip
   refine aQ ?_
   unfold bY at h0;unfold cC at h1;unfold cE at h2;unfold cH at h3;unfold cJ at h4;unfold cI at h5;unfold cR at h6;unfold cK at h7;unfold gT at h8;replace h0:B.den G (cQ ([x0,x1,x2,x3,x4,x5,x6,x7]++[l0,l1,l2,l3,l4,l5])) bU=true:=h0;obtain⟨⟨t0,t1,t2,t3,t4⟩,⟨e0,e1,e2,e3,e4⟩,⟨f0,f1,f2,f3,f4⟩,⟨g1,g2,g3,g4⟩,w1,w2,w3,w4⟩:=bF h0;exfalso;clear h0;simp only[nn,List.cons_append,List.nil_append,Bool.or_eq_true,aP,ne_eq]at h1 h2 h3 h4 h5 h6 h7 h8;(try simp (disch:=omega) only[w1,w2,w3,w4]at h1 h2 h3 h4 h5 h6 h7 h8);generalize aL x2 x4 l2 x3.toNat=a at *;generalize aL x2 x4 l2 0=a0 at *;generalize aL x2 x4 l2 1=a1 at *;generalize aL x2 x4 l2 2=a2 at *;generalize aL x2 x4 l2 3=a3 at *;generalize aL x2 x4 l2 4=a4 at *;generalize G 83 [l2,0,0]=c0 at *;generalize G 83 [l2,1,0]=c1 at *;generalize G 83 [l2,2,0]=c2 at *;generalize G 83 [l2,3,0]=c3 at *;omega
  refine aG gV (fun h9=>?_) (fun h9=>?_)
  ·skip
   refine aH aRy ?_
   unfold bY at h0;unfold cC at h1;unfold cE at h2;unfold cH at h3;unfold cJ at h4;unfold cI at h5;unfold cR at h6;unfold cK at h7;unfold gT at h8;unfold gV at h9;replace h0:B.den G (cQ ([x0,x1,x2,x3,x4,x5,x6,x7]++[l0,l1,l2,l3,l4,l5])) bU=true:=h0;obtain⟨⟨t0,t1,t2,t3,t4⟩,⟨e0,e1,e2,e3,e4⟩,⟨f0,f1,f2,f3,f4⟩,⟨g1,g2,g3,g4⟩,w1,w2,w3,w4⟩:=bF h0;have h0':=h0;clear h0;simp only[nn,List.cons_append,List.nil_append,Bool.or_eq_true,aP,ne_eq]at h1 h2 h3 h4 h5 h6 h7 h8 h9;(try simp (disch:=omega) only[w1,w2,w3,w4]at h1 h2 h3 h4 h5 h6 h7 h8 h9);(try simp (disch:=omega) only[Int.tdiv_eq_ediv_of_nonneg]at *);simp only[bK];have key:524288<aL x2 x4 l2 x3.toNat:=(by generalize aL x2 x4 l2 x3.toNat=a at *;generalize aL x2 x4 l2 0=a0 at *;generalize aL x2 x4 l2 1=a1 at *;generalize aL x2 x4 l2 2=a2 at *;generalize aL x2 x4 l2 3=a3 at *;generalize aL x2 x4 l2 4=a4 at *;generalize G 83 [l2,0,0]=c0 at *;generalize G 83 [l2,1,0]=c1 at *;generalize G 83 [l2,2,0]=c2 at *;generalize G 83 [l2,3,0]=c3 at *;omega);refine⟨?_,?_⟩;(show B.den G _ dM=false;unfold dM;simp only[aZ,h0',Bool.true_and];rw[Bool.eq_false_iff];intro q;simp only[Bool.and_eq_true]at q;simp only[nn,List.cons_append,List.nil_append,Bool.or_eq_true,aP,ne_eq]at q;have q1:aL x2 x4 l2 x3.toNat≤524288∧aL x2 x4 l2 x3.toNat≤8*x7:=q;omega);(simp only[aI];exact⟨lT h0' key,trivial⟩)
  refine aG jU (fun h10=>?_) (fun h10=>?_)
  ·skip
   refine aH aOw ?_
   unfold bY at h0;unfold cC at h1;unfold cE at h2;unfold cH at h3;unfold cJ at h4;unfold cI at h5;unfold cR at h6;unfold cK at h7;unfold gT at h8;unfold gV at h9;unfold jU at h10;replace h0:B.den G (cQ ([x0,x1,x2,x3,x4,x5,x6,x7]++[l0,l1,l2,l3,l4,l5])) bU=true:=h0;obtain⟨⟨t0,t1,t2,t3,t4⟩,⟨e0,e1,e2,e3,e4⟩,⟨f0,f1,f2,f3,f4⟩,⟨g1,g2,g3,g4⟩,w1,w2,w3,w4⟩:=bF h0;have h0':=h0;clear h0;simp only[nn,List.cons_append,List.nil_append,Bool.or_eq_true,aP,ne_eq]at h1 h2 h3 h4 h5 h6 h7 h8 h9 h10;(try simp (disch:=omega) only[w1,w2,w3,w4]at h1 h2 h3 h4 h5 h6 h7 h8 h9 h10);(try simp (disch:=omega) only[Int.tdiv_eq_ediv_of_nonneg]at *);simp only[bK];have key:aL x2 x4 l2 x3.toNat≤524288∧8*x7<aL x2 x4 l2 x3.toNat:=(by generalize aL x2 x4 l2 x3.toNat=a at *;generalize aL x2 x4 l2 0=a0 at *;generalize aL x2 x4 l2 1=a1 at *;generalize aL x2 x4 l2 2=a2 at *;generalize aL x2 x4 l2 3=a3 at *;generalize aL x2 x4 l2 4=a4 at *;generalize G 83 [l2,0,0]=c0 at *;generalize G 83 [l2,1,0]=c1 at *;generalize G 83 [l2,2,0]=c2 at *;generalize G 83 [l2,3,0]=c3 at *;omega);refine⟨?_,?_⟩;(show B.den G _ dM=false;unfold dM;simp only[aZ,h0',Bool.true_and];rw[Bool.eq_false_iff];intro q;simp only[Bool.and_eq_true]at q;simp only[nn,List.cons_append,List.nil_append,Bool.or_eq_true,aP,ne_eq]at q;have q1:aL x2 x4 l2 x3.toNat≤524288∧aL x2 x4 l2 x3.toNat≤8*x7:=q;omega);(simp only[aI];exact⟨iI h0' key.1,trivial⟩)
  refine aH aOZ ?_
  unfold bY at h0;unfold cC at h1;unfold cE at h2;unfold cH at h3;unfold cJ at h4;unfold cI at h5;unfold cR at h6;unfold cK at h7;unfold gT at h8;unfold gV at h9;unfold jU at h10;replace h0:B.den G (cQ ([x0,x1,x2,x3,x4,x5,x6,x7]++[l0,l1,l2,l3,l4,l5])) bU=true:=h0;obtain⟨⟨t0,t1,t2,t3,t4⟩,⟨e0,e1,e2,e3,e4⟩,⟨f0,f1,f2,f3,f4⟩,⟨g1,g2,g3,g4⟩,w1,w2,w3,w4⟩:=bF h0;simp only[bK];refine⟨?_,trivial⟩;show B.den G _ dM=true;unfold dM;simp only[aZ,h0,Bool.true_and,Bool.and_eq_true];clear h0;simp only[nn,List.cons_append,List.nil_append,Bool.or_eq_true,aP,ne_eq]at h1 h2 h3 h4 h5 h6 h7 h8 h9 h10;(try simp (disch:=omega) only[w1,w2,w3,w4]at h1 h2 h3 h4 h5 h6 h7 h8 h9 h10);(try simp (disch:=omega) only[Int.tdiv_eq_ediv_of_nonneg]at *);simp only[nn,List.cons_append,List.nil_append,Bool.or_eq_true,aP,ne_eq];show aL x2 x4 l2 x3.toNat≤524288∧aL x2 x4 l2 x3.toNat≤8*x7;generalize aL x2 x4 l2 x3.toNat=a at *;generalize aL x2 x4 l2 0=a0 at *;generalize aL x2 x4 l2 1=a1 at *;generalize aL x2 x4 l2 2=a2 at *;generalize aL x2 x4 l2 3=a3 at *;generalize aL x2 x4 l2 4=a4 at *;generalize G 83 [l2,0,0]=c0 at *;generalize G 83 [l2,1,0]=c1 at *;generalize G 83 [l2,2,0]=c2 at *;generalize G 83 [l2,3,0]=c3 at *;omega
 refine aG cZ (fun h8=>?_) (fun h8=>?_)
 rotate_left
 ·skip
  refine aG gT (fun h9=>?_) (fun h9=>?_)
  rotate_left
  ·skip
   refine aQ ?_
   unfold bY at h0;unfold cC at h1;unfold cE at h2;unfold cH at h3;unfold cJ at h4;unfold cI at h5;unfold cR at h6;unfold cK at h7;unfold cZ at h8;unfold gT at h9;replace h0:B.den G (cQ ([x0,x1,x2,x3,x4,x5,x6,x7]++[l0,l1,l2,l3,l4,l5])) bU=true:=h0;obtain⟨⟨t0,t1,t2,t3,t4⟩,⟨e0,e1,e2,e3,e4⟩,⟨f0,f1,f2,f3,f4⟩,⟨g1,g2,g3,g4⟩,w1,w2,w3,w4⟩:=bF h0;exfalso;clear h0;simp only[nn,List.cons_append,List.nil_append,Bool.or_eq_true,aP,ne_eq]at h1 h2 h3 h4 h5 h6 h7 h8 h9;(try simp (disch:=omega) only[w1,w2,w3,w4]at h1 h2 h3 h4 h5 h6 h7 h8 h9);generalize aL x2 x4 l2 x3.toNat=a at *;generalize aL x2 x4 l2 0=a0 at *;generalize aL x2 x4 l2 1=a1 at *;generalize aL x2 x4 l2 2=a2 at *;generalize aL x2 x4 l2 3=a3 at *;generalize aL x2 x4 l2 4=a4 at *;generalize G 83 [l2,0,0]=c0 at *;generalize G 83 [l2,1,0]=c1 at *;generalize G 83 [l2,2,0]=c2 at *;generalize G 83 [l2,3,0]=c3 at *;omega
  refine aG gV (fun h10=>?_) (fun h10=>?_)
  ·skip
   refine aH aPm ?_
   unfold bY at h0;unfold cC at h1;unfold cE at h2;unfold cH at h3;unfold cJ at h4;unfold cI at h5;unfold cR at h6;unfold cK at h7;unfold cZ at h8;unfold gT at h9;unfold gV at h10;replace h0:B.den G (cQ ([x0,x1,x2,x3,x4,x5,x6,x7]++[l0,l1,l2,l3,l4,l5])) bU=true:=h0;obtain⟨⟨t0,t1,t2,t3,t4⟩,⟨e0,e1,e2,e3,e4⟩,⟨f0,f1,f2,f3,f4⟩,⟨g1,g2,g3,g4⟩,w1,w2,w3,w4⟩:=bF h0;have h0':=h0;clear h0;simp only[nn,List.cons_append,List.nil_append,Bool.or_eq_true,aP,ne_eq]at h1 h2 h3 h4 h5 h6 h7 h8 h9 h10;(try simp (disch:=omega) only[w1,w2,w3,w4]at h1 h2 h3 h4 h5 h6 h7 h8 h9 h10);(try simp (disch:=omega) only[Int.tdiv_eq_ediv_of_nonneg]at *);simp only[bK];have key:524288<aL x2 x4 l2 x3.toNat:=(by generalize aL x2 x4 l2 x3.toNat=a at *;generalize aL x2 x4 l2 0=a0 at *;generalize aL x2 x4 l2 1=a1 at *;generalize aL x2 x4 l2 2=a2 at *;generalize aL x2 x4 l2 3=a3 at *;generalize aL x2 x4 l2 4=a4 at *;generalize G 83 [l2,0,0]=c0 at *;generalize G 83 [l2,1,0]=c1 at *;generalize G 83 [l2,2,0]=c2 at *;generalize G 83 [l2,3,0]=c3 at *;omega);refine⟨?_,?_⟩;(show B.den G _ dM=false;unfold dM;simp only[aZ,h0',Bool.true_and];rw[Bool.eq_false_iff];intro q;simp only[Bool.and_eq_true]at q;simp only[nn,List.cons_append,List.nil_append,Bool.or_eq_true,aP,ne_eq]at q;have q1:aL x2 x4 l2 x3.toNat≤524288∧aL x2 x4 l2 x3.toNat≤8*x7:=q;omega);(simp only[aI];exact⟨lT h0' key,trivial⟩)
  refine aG jU (fun h11=>?_) (fun h11=>?_)
  ·skip
   refine aH aRH ?_
   unfold bY at h0;unfold cC at h1;unfold cE at h2;unfold cH at h3;unfold cJ at h4;unfold cI at h5;unfold cR at h6;unfold cK at h7;unfold cZ at h8;unfold gT at h9;unfold gV at h10;unfold jU at h11;replace h0:B.den G (cQ ([x0,x1,x2,x3,x4,x5,x6,x7]++[l0,l1,l2,l3,l4,l5])) bU=true:=h0;obtain⟨⟨t0,t1,t2,t3,t4⟩,⟨e0,e1,e2,e3,e4⟩,⟨f0,f1,f2,f3,f4⟩,⟨g1,g2,g3,g4⟩,w1,w2,w3,w4⟩:=bF h0;have h0':=h0;clear h0;simp only[nn,List.cons_append,List.nil_append,Bool.or_eq_true,aP,ne_eq]at h1 h2 h3 h4 h5 h6 h7 h8 h9 h10 h11;(try simp (disch:=omega) only[w1,w2,w3,w4]at h1 h2 h3 h4 h5 h6 h7 h8 h9 h10 h11);(try simp (disch:=omega) only[Int.tdiv_eq_ediv_of_nonneg]at *);simp only[bK];have key:aL x2 x4 l2 x3.toNat≤524288∧8*x7<aL x2 x4 l2 x3.toNat:=(by generalize aL x2 x4 l2 x3.toNat=a at *;generalize aL x2 x4 l2 0=a0 at *;generalize aL x2 x4 l2 1=a1 at *;generalize aL x2 x4 l2 2=a2 at *;generalize aL x2 x4 l2 3=a3 at *;generalize aL x2 x4 l2 4=a4 at *;generalize G 83 [l2,0,0]=c0 at *;generalize G 83 [l2,1,0]=c1 at *;generalize G 83 [l2,2,0]=c2 at *;generalize G 83 [l2,3,0]=c3 at *;omega);refine⟨?_,?_⟩;(show B.den G _ dM=false;unfold dM;simp only[aZ,h0',Bool.true_and];rw[Bool.eq_false_iff];intro q;simp only[Bool.and_eq_true]at q;simp only[nn,List.cons_append,List.nil_append,Bool.or_eq_true,aP,ne_eq]at q;have q1:aL x2 x4 l2 x3.toNat≤524288∧aL x2 x4 l2 x3.toNat≤8*x7:=q;omega);(simp only[aI];exact⟨iI h0' key.1,trivial⟩)
  refine aH aQS ?_
  unfold bY at h0;unfold cC at h1;unfold cE at h2;unfold cH at h3;unfold cJ at h4;unfold cI at h5;unfold cR at h6;unfold cK at h7;unfold cZ at h8;unfold gT at h9;unfold gV at h10;unfold jU at h11;replace h0:B.den G (cQ ([x0,x1,x2,x3,x4,x5,x6,x7]++[l0,l1,l2,l3,l4,l5])) bU=true:=h0;obtain⟨⟨t0,t1,t2,t3,t4⟩,⟨e0,e1,e2,e3,e4⟩,⟨f0,f1,f2,f3,f4⟩,⟨g1,g2,g3,g4⟩,w1,w2,w3,w4⟩:=bF h0;simp only[bK];refine⟨?_,trivial⟩;show B.den G _ dM=true;unfold dM;simp only[aZ,h0,Bool.true_and,Bool.and_eq_true];clear h0;simp only[nn,List.cons_append,List.nil_append,Bool.or_eq_true,aP,ne_eq]at h1 h2 h3 h4 h5 h6 h7 h8 h9 h10 h11;(try simp (disch:=omega) only[w1,w2,w3,w4]at h1 h2 h3 h4 h5 h6 h7 h8 h9 h10 h11);(try simp (disch:=omega) only[Int.tdiv_eq_ediv_of_nonneg]at *);simp only[nn,List.cons_append,List.nil_append,Bool.or_eq_true,aP,ne_eq];show aL x2 x4 l2 x3.toNat≤524288∧aL x2 x4 l2 x3.toNat≤8*x7;generalize aL x2 x4 l2 x3.toNat=a at *;generalize aL x2 x4 l2 0=a0 at *;generalize aL x2 x4 l2 1=a1 at *;generalize aL x2 x4 l2 2=a2 at *;generalize aL x2 x4 l2 3=a3 at *;generalize aL x2 x4 l2 4=a4 at *;generalize G 83 [l2,0,0]=c0 at *;generalize G 83 [l2,1,0]=c1 at *;generalize G 83 [l2,2,0]=c2 at *;generalize G 83 [l2,3,0]=c3 at *;omega
 refine aG dS (fun h9=>?_) (fun h9=>?_)
 ·skip
  refine aG gQ (fun h10=>?_) (fun h10=>?_)
  rotate_left
  ·skip
   refine aQ ?_
   unfold bY at h0;unfold cC at h1;unfold cE at h2;unfold cH at h3;unfold cJ at h4;unfold cI at h5;unfold cR at h6;unfold cK at h7;unfold cZ at h8;unfold dS at h9;unfold gQ at h10;replace h0:B.den G (cQ ([x0,x1,x2,x3,x4,x5,x6,x7]++[l0,l1,l2,l3,l4,l5])) bU=true:=h0;obtain⟨⟨t0,t1,t2,t3,t4⟩,⟨e0,e1,e2,e3,e4⟩,⟨f0,f1,f2,f3,f4⟩,⟨g1,g2,g3,g4⟩,w1,w2,w3,w4⟩:=bF h0;exfalso;clear h0;simp only[nn,List.cons_append,List.nil_append,Bool.or_eq_true,aP,ne_eq]at h1 h2 h3 h4 h5 h6 h7 h8 h9 h10;(try simp (disch:=omega) only[w1,w2,w3,w4]at h1 h2 h3 h4 h5 h6 h7 h8 h9 h10);generalize aL x2 x4 l2 x3.toNat=a at *;generalize aL x2 x4 l2 0=a0 at *;generalize aL x2 x4 l2 1=a1 at *;generalize aL x2 x4 l2 2=a2 at *;generalize aL x2 x4 l2 3=a3 at *;generalize aL x2 x4 l2 4=a4 at *;generalize G 83 [l2,0,0]=c0 at *;generalize G 83 [l2,1,0]=c1 at *;generalize G 83 [l2,2,0]=c2 at *;generalize G 83 [l2,3,0]=c3 at *;omega
  refine aG gR (fun h11=>?_) (fun h11=>?_)
  ·skip
   refine aH aRv ?_
   unfold bY at h0;unfold cC at h1;unfold cE at h2;unfold cH at h3;unfold cJ at h4;unfold cI at h5;unfold cR at h6;unfold cK at h7;unfold cZ at h8;unfold dS at h9;unfold gQ at h10;unfold gR at h11;replace h0:B.den G (cQ ([x0,x1,x2,x3,x4,x5,x6,x7]++[l0,l1,l2,l3,l4,l5])) bU=true:=h0;obtain⟨⟨t0,t1,t2,t3,t4⟩,⟨e0,e1,e2,e3,e4⟩,⟨f0,f1,f2,f3,f4⟩,⟨g1,g2,g3,g4⟩,w1,w2,w3,w4⟩:=bF h0;have h0':=h0;clear h0;simp only[nn,List.cons_append,List.nil_append,Bool.or_eq_true,aP,ne_eq]at h1 h2 h3 h4 h5 h6 h7 h8 h9 h10 h11;(try simp (disch:=omega) only[w1,w2,w3,w4]at h1 h2 h3 h4 h5 h6 h7 h8 h9 h10 h11);(try simp (disch:=omega) only[Int.tdiv_eq_ediv_of_nonneg]at *);simp only[bK];have key:524288<aL x2 x4 l2 x3.toNat:=(by generalize aL x2 x4 l2 x3.toNat=a at *;generalize aL x2 x4 l2 0=a0 at *;generalize aL x2 x4 l2 1=a1 at *;generalize aL x2 x4 l2 2=a2 at *;generalize aL x2 x4 l2 3=a3 at *;generalize aL x2 x4 l2 4=a4 at *;generalize G 83 [l2,0,0]=c0 at *;generalize G 83 [l2,1,0]=c1 at *;generalize G 83 [l2,2,0]=c2 at *;generalize G 83 [l2,3,0]=c3 at *;omega);refine⟨?_,?_⟩;(show B.den G _ dM=false;unfold dM;simp only[aZ,h0',Bool.true_and];rw[Bool.eq_false_iff];intro q;simp only[Bool.and_eq_true]at q;simp only[nn,List.cons_append,List.nil_append,Bool.or_eq_true,aP,ne_eq]at q;have q1:aL x2 x4 l2 x3.toNat≤524288∧aL x2 x4 l2 x3.toNat≤8*x7:=q;omega);(simp only[aI];exact⟨lT h0' key,trivial⟩)
  refine aG jY (fun h12=>?_) (fun h12=>?_)
  ·skip
   refine aH aRP ?_
   unfold bY at h0;unfold cC at h1;unfold cE at h2;unfold cH at h3;unfold cJ at h4;unfold cI at h5;unfold cR at h6;unfold cK at h7;unfold cZ at h8;unfold dS at h9;unfold gQ at h10;unfold gR at h11;unfold jY at h12;replace h0:B.den G (cQ ([x0,x1,x2,x3,x4,x5,x6,x7]++[l0,l1,l2,l3,l4,l5])) bU=true:=h0;obtain⟨⟨t0,t1,t2,t3,t4⟩,⟨e0,e1,e2,e3,e4⟩,⟨f0,f1,f2,f3,f4⟩,⟨g1,g2,g3,g4⟩,w1,w2,w3,w4⟩:=bF h0;have h0':=h0;clear h0;simp only[nn,List.cons_append,List.nil_append,Bool.or_eq_true,aP,ne_eq]at h1 h2 h3 h4 h5 h6 h7 h8 h9 h10 h11 h12;(try simp (disch:=omega) only[w1,w2,w3,w4]at h1 h2 h3 h4 h5 h6 h7 h8 h9 h10 h11 h12);(try simp (disch:=omega) only[Int.tdiv_eq_ediv_of_nonneg]at *);simp only[bK];have key:aL x2 x4 l2 x3.toNat≤524288∧8*x7<aL x2 x4 l2 x3.toNat:=(by generalize aL x2 x4 l2 x3.toNat=a at *;generalize aL x2 x4 l2 0=a0 at *;generalize aL x2 x4 l2 1=a1 at *;generalize aL x2 x4 l2 2=a2 at *;generalize aL x2 x4 l2 3=a3 at *;generalize aL x2 x4 l2 4=a4 at *;generalize G 83 [l2,0,0]=c0 at *;generalize G 83 [l2,1,0]=c1 at *;generalize G 83 [l2,2,0]=c2 at *;generalize G 83 [l2,3,0]=c3 at *;omega);refine⟨?_,?_⟩;(show B.den G _ dM=false;unfold dM;simp only[aZ,h0',Bool.true_and];rw[Bool.eq_false_iff];intro q;simp only[Bool.and_eq_true]at q;simp only[nn,List.cons_append,List.nil_append,Bool.or_eq_true,aP,ne_eq]at q;have q1:aL x2 x4 l2 x3.toNat≤524288∧aL x2 x4 l2 x3.toNat≤8*x7:=q;omega);(simp only[aI];exact⟨iI h0' key.1,trivial⟩)
  refine aH aQz ?_
  unfold bY at h0;unfold cC at h1;unfold cE at h2;unfold cH at h3;unfold cJ at h4;unfold cI at h5;unfold cR at h6;unfold cK at h7;unfold cZ at h8;unfold dS at h9;unfold gQ at h10;unfold gR at h11;unfold jY at h12;replace h0:B.den G (cQ ([x0,x1,x2,x3,x4,x5,x6,x7]++[l0,l1,l2,l3,l4,l5])) bU=true:=h0;obtain⟨⟨t0,t1,t2,t3,t4⟩,⟨e0,e1,e2,e3,e4⟩,⟨f0,f1,f2,f3,f4⟩,⟨g1,g2,g3,g4⟩,w1,w2,w3,w4⟩:=bF h0;simp only[bK];refine⟨?_,trivial⟩;show B.den G _ dM=true;unfold dM;simp only[aZ,h0,Bool.true_and,Bool.and_eq_true];clear h0;simp only[nn,List.cons_append,List.nil_append,Bool.or_eq_true,aP,ne_eq]at h1 h2 h3 h4 h5 h6 h7 h8 h9 h10 h11 h12;(try simp (disch:=omega) only[w1,w2,w3,w4]at h1 h2 h3 h4 h5 h6 h7 h8 h9 h10 h11 h12);(try simp (disch:=omega) only[Int.tdiv_eq_ediv_of_nonneg]at *);simp only[nn,List.cons_append,List.nil_append,Bool.or_eq_true,aP,ne_eq];show aL x2 x4 l2 x3.toNat≤524288∧aL x2 x4 l2 x3.toNat≤8*x7;generalize aL x2 x4 l2 x3.toNat=a at *;generalize aL x2 x4 l2 0=a0 at *;generalize aL x2 x4 l2 1=a1 at *;generalize aL x2 x4 l2 2=a2 at *;generalize aL x2 x4 l2 3=a3 at *;generalize aL x2 x4 l2 4=a4 at *;generalize G 83 [l2,0,0]=c0 at *;generalize G 83 [l2,1,0]=c1 at *;generalize G 83 [l2,2,0]=c2 at *;generalize G 83 [l2,3,0]=c3 at *;omega
 refine aG eY (fun h10=>?_) (fun h10=>?_)
 rotate_left
 ·skip
  refine aG gQ (fun h11=>?_) (fun h11=>?_)
  rotate_left
  ·skip
   refine aQ ?_
   unfold bY at h0;unfold cC at h1;unfold cE at h2;unfold cH at h3;unfold cJ at h4;unfold cI at h5;unfold cR at h6;unfold cK at h7;unfold cZ at h8;unfold dS at h9;unfold eY at h10;unfold gQ at h11;replace h0:B.den G (cQ ([x0,x1,x2,x3,x4,x5,x6,x7]++[l0,l1,l2,l3,l4,l5])) bU=true:=h0;obtain⟨⟨t0,t1,t2,t3,t4⟩,⟨e0,e1,e2,e3,e4⟩,⟨f0,f1,f2,f3,f4⟩,⟨g1,g2,g3,g4⟩,w1,w2,w3,w4⟩:=bF h0;exfalso;clear h0;simp only[nn,List.cons_append,List.nil_append,Bool.or_eq_true,aP,ne_eq]at h1 h2 h3 h4 h5 h6 h7 h8 h9 h10 h11;(try simp (disch:=omega) only[w1,w2,w3,w4]at h1 h2 h3 h4 h5 h6 h7 h8 h9 h10 h11);generalize aL x2 x4 l2 x3.toNat=a at *;generalize aL x2 x4 l2 0=a0 at *;generalize aL x2 x4 l2 1=a1 at *;generalize aL x2 x4 l2 2=a2 at *;generalize aL x2 x4 l2 3=a3 at *;generalize aL x2 x4 l2 4=a4 at *;generalize G 83 [l2,0,0]=c0 at *;generalize G 83 [l2,1,0]=c1 at *;generalize G 83 [l2,2,0]=c2 at *;generalize G 83 [l2,3,0]=c3 at *;omega
  refine aG gR (fun h12=>?_) (fun h12=>?_)
  ·skip
   refine aH aM2 ?_
   unfold bY at h0;unfold cC at h1;unfold cE at h2;unfold cH at h3;unfold cJ at h4;unfold cI at h5;unfold cR at h6;unfold cK at h7;unfold cZ at h8;unfold dS at h9;unfold eY at h10;unfold gQ at h11;unfold gR at h12;replace h0:B.den G (cQ ([x0,x1,x2,x3,x4,x5,x6,x7]++[l0,l1,l2,l3,l4,l5])) bU=true:=h0;obtain⟨⟨t0,t1,t2,t3,t4⟩,⟨e0,e1,e2,e3,e4⟩,⟨f0,f1,f2,f3,f4⟩,⟨g1,g2,g3,g4⟩,w1,w2,w3,w4⟩:=bF h0;have h0':=h0;clear h0;simp only[nn,List.cons_append,List.nil_append,Bool.or_eq_true,aP,ne_eq]at h1 h2 h3 h4 h5 h6 h7 h8 h9 h10 h11 h12;(try simp (disch:=omega) only[w1,w2,w3,w4]at h1 h2 h3 h4 h5 h6 h7 h8 h9 h10 h11 h12);(try simp (disch:=omega) only[Int.tdiv_eq_ediv_of_nonneg]at *);simp only[bK];have key:524288<aL x2 x4 l2 x3.toNat:=(by generalize aL x2 x4 l2 x3.toNat=a at *;generalize aL x2 x4 l2 0=a0 at *;generalize aL x2 x4 l2 1=a1 at *;generalize aL x2 x4 l2 2=a2 at *;generalize aL x2 x4 l2 3=a3 at *;generalize aL x2 x4 l2 4=a4 at *;generalize G 83 [l2,0,0]=c0 at *;generalize G 83 [l2,1,0]=c1 at *;generalize G 83 [l2,2,0]=c2 at *;generalize G 83 [l2,3,0]=c3 at *;omega);refine⟨?_,?_⟩;(show B.den G _ dM=false;unfold dM;simp only[aZ,h0',Bool.true_and];rw[Bool.eq_false_iff];intro q;simp only[Bool.and_eq_true]at q;simp only[nn,List.cons_append,List.nil_append,Bool.or_eq_true,aP,ne_eq]at q;have q1:aL x2 x4 l2 x3.toNat≤524288∧aL x2 x4 l2 x3.toNat≤8*x7:=q;omega);(simp only[aI];exact⟨lT h0' key,trivial⟩)
  refine aG jY (fun h13=>?_) (fun h13=>?_)
  ·skip
   refine aH aMW ?_
   unfold bY at h0;unfold cC at h1;unfold cE at h2;unfold cH at h3;unfold cJ at h4;unfold cI at h5;unfold cR at h6;unfold cK at h7;unfold cZ at h8;unfold dS at h9;unfold eY at h10;unfold gQ at h11;unfold gR at h12;unfold jY at h13;replace h0:B.den G (cQ ([x0,x1,x2,x3,x4,x5,x6,x7]++[l0,l1,l2,l3,l4,l5])) bU=true:=h0;obtain⟨⟨t0,t1,t2,t3,t4⟩,⟨e0,e1,e2,e3,e4⟩,⟨f0,f1,f2,f3,f4⟩,⟨g1,g2,g3,g4⟩,w1,w2,w3,w4⟩:=bF h0;have h0':=h0;clear h0;simp only[nn,List.cons_append,List.nil_append,Bool.or_eq_true,aP,ne_eq]at h1 h2 h3 h4 h5 h6 h7 h8 h9 h10 h11 h12 h13;(try simp (disch:=omega) only[w1,w2,w3,w4]at h1 h2 h3 h4 h5 h6 h7 h8 h9 h10 h11 h12 h13);(try simp (disch:=omega) only[Int.tdiv_eq_ediv_of_nonneg]at *);simp only[bK];have key:aL x2 x4 l2 x3.toNat≤524288∧8*x7<aL x2 x4 l2 x3.toNat:=(by generalize aL x2 x4 l2 x3.toNat=a at *;generalize aL x2 x4 l2 0=a0 at *;generalize aL x2 x4 l2 1=a1 at *;generalize aL x2 x4 l2 2=a2 at *;generalize aL x2 x4 l2 3=a3 at *;generalize aL x2 x4 l2 4=a4 at *;generalize G 83 [l2,0,0]=c0 at *;generalize G 83 [l2,1,0]=c1 at *;generalize G 83 [l2,2,0]=c2 at *;generalize G 83 [l2,3,0]=c3 at *;omega);refine⟨?_,?_⟩;(show B.den G _ dM=false;unfold dM;simp only[aZ,h0',Bool.true_and];rw[Bool.eq_false_iff];intro q;simp only[Bool.and_eq_true]at q;simp only[nn,List.cons_append,List.nil_append,Bool.or_eq_true,aP,ne_eq]at q;have q1:aL x2 x4 l2 x3.toNat≤524288∧aL x2 x4 l2 x3.toNat≤8*x7:=q;omega);(simp only[aI];exact⟨iI h0' key.1,trivial⟩)
  refine aH aNz ?_
  unfold bY at h0;unfold cC at h1;unfold cE at h2;unfold cH at h3;unfold cJ at h4;unfold cI at h5;unfold cR at h6;unfold cK at h7;unfold cZ at h8;unfold dS at h9;unfold eY at h10;unfold gQ at h11;unfold gR at h12;unfold jY at h13;replace h0:B.den G (cQ ([x0,x1,x2,x3,x4,x5,x6,x7]++[l0,l1,l2,l3,l4,l5])) bU=true:=h0;obtain⟨⟨t0,t1,t2,t3,t4⟩,⟨e0,e1,e2,e3,e4⟩,⟨f0,f1,f2,f3,f4⟩,⟨g1,g2,g3,g4⟩,w1,w2,w3,w4⟩:=bF h0;simp only[bK];refine⟨?_,trivial⟩;show B.den G _ dM=true;unfold dM;simp only[aZ,h0,Bool.true_and,Bool.and_eq_true];clear h0;simp only[nn,List.cons_append,List.nil_append,Bool.or_eq_true,aP,ne_eq]at h1 h2 h3 h4 h5 h6 h7 h8 h9 h10 h11 h12 h13;(try simp (disch:=omega) only[w1,w2,w3,w4]at h1 h2 h3 h4 h5 h6 h7 h8 h9 h10 h11 h12 h13);(try simp (disch:=omega) only[Int.tdiv_eq_ediv_of_nonneg]at *);simp only[nn,List.cons_append,List.nil_append,Bool.or_eq_true,aP,ne_eq];show aL x2 x4 l2 x3.toNat≤524288∧aL x2 x4 l2 x3.toNat≤8*x7;generalize aL x2 x4 l2 x3.toNat=a at *;generalize aL x2 x4 l2 0=a0 at *;generalize aL x2 x4 l2 1=a1 at *;generalize aL x2 x4 l2 2=a2 at *;generalize aL x2 x4 l2 3=a3 at *;generalize aL x2 x4 l2 4=a4 at *;generalize G 83 [l2,0,0]=c0 at *;generalize G 83 [l2,1,0]=c1 at *;generalize G 83 [l2,2,0]=c2 at *;generalize G 83 [l2,3,0]=c3 at *;omega
 refine aG iZ (fun h11=>?_) (fun h11=>?_)
 ·skip
  refine aG gS (fun h12=>?_) (fun h12=>?_)
  rotate_left
  ·skip
   refine aQ ?_
   unfold bY at h0;unfold cC at h1;unfold cE at h2;unfold cH at h3;unfold cJ at h4;unfold cI at h5;unfold cR at h6;unfold cK at h7;unfold cZ at h8;unfold dS at h9;unfold eY at h10;unfold iZ at h11;unfold gS at h12;replace h0:B.den G (cQ ([x0,x1,x2,x3,x4,x5,x6,x7]++[l0,l1,l2,l3,l4,l5])) bU=true:=h0;obtain⟨⟨t0,t1,t2,t3,t4⟩,⟨e0,e1,e2,e3,e4⟩,⟨f0,f1,f2,f3,f4⟩,⟨g1,g2,g3,g4⟩,w1,w2,w3,w4⟩:=bF h0;exfalso;clear h0;simp only[nn,List.cons_append,List.nil_append,Bool.or_eq_true,aP,ne_eq]at h1 h2 h3 h4 h5 h6 h7 h8 h9 h10 h11 h12;(try simp (disch:=omega) only[w1,w2,w3,w4]at h1 h2 h3 h4 h5 h6 h7 h8 h9 h10 h11 h12);generalize aL x2 x4 l2 x3.toNat=a at *;generalize aL x2 x4 l2 0=a0 at *;generalize aL x2 x4 l2 1=a1 at *;generalize aL x2 x4 l2 2=a2 at *;generalize aL x2 x4 l2 3=a3 at *;generalize aL x2 x4 l2 4=a4 at *;generalize G 83 [l2,0,0]=c0 at *;generalize G 83 [l2,1,0]=c1 at *;generalize G 83 [l2,2,0]=c2 at *;generalize G 83 [l2,3,0]=c3 at *;omega
  refine aG gW (fun h13=>?_) (fun h13=>?_)
  ·skip
   refine aH aRX ?_
   unfold bY at h0;unfold cC at h1;unfold cE at h2;unfold cH at h3;unfold cJ at h4;unfold cI at h5;unfold cR at h6;unfold cK at h7;unfold cZ at h8;unfold dS at h9;unfold eY at h10;unfold iZ at h11;unfold gS at h12;unfold gW at h13;replace h0:B.den G (cQ ([x0,x1,x2,x3,x4,x5,x6,x7]++[l0,l1,l2,l3,l4,l5])) bU=true:=h0;obtain⟨⟨t0,t1,t2,t3,t4⟩,⟨e0,e1,e2,e3,e4⟩,⟨f0,f1,f2,f3,f4⟩,⟨g1,g2,g3,g4⟩,w1,w2,w3,w4⟩:=bF h0;have h0':=h0;clear h0;simp only[nn,List.cons_append,List.nil_append,Bool.or_eq_true,aP,ne_eq]at h1 h2 h3 h4 h5 h6 h7 h8 h9 h10 h11 h12 h13;(try simp (disch:=omega) only[w1,w2,w3,w4]at h1 h2 h3 h4 h5 h6 h7 h8 h9 h10 h11 h12 h13);(try simp (disch:=omega) only[Int.tdiv_eq_ediv_of_nonneg]at *);simp only[bK];have key:524288<aL x2 x4 l2 x3.toNat:=(by generalize aL x2 x4 l2 x3.toNat=a at *;generalize aL x2 x4 l2 0=a0 at *;generalize aL x2 x4 l2 1=a1 at *;generalize aL x2 x4 l2 2=a2 at *;generalize aL x2 x4 l2 3=a3 at *;generalize aL x2 x4 l2 4=a4 at *;generalize G 83 [l2,0,0]=c0 at *;generalize G 83 [l2,1,0]=c1 at *;generalize G 83 [l2,2,0]=c2 at *;generalize G 83 [l2,3,0]=c3 at *;omega);refine⟨?_,?_⟩;(show B.den G _ dM=false;unfold dM;simp only[aZ,h0',Bool.true_and];rw[Bool.eq_false_iff];intro q;simp only[Bool.and_eq_true]at q;simp only[nn,List.cons_append,List.nil_append,Bool.or_eq_true,aP,ne_eq]at q;have q1:aL x2 x4 l2 x3.toNat≤524288∧aL x2 x4 l2 x3.toNat≤8*x7:=q;omega);(simp only[aI];exact⟨lT h0' key,trivial⟩)
  refine aG jW (fun h14=>?_) (fun h14=>?_)
  ·skip
   refine aH aQA ?_
   unfold bY at h0;unfold cC at h1;unfold cE at h2;unfold cH at h3;unfold cJ at h4;unfold cI at h5;unfold cR at h6;unfold cK at h7;unfold cZ at h8;unfold dS at h9;unfold eY at h10;unfold iZ at h11;unfold gS at h12;unfold gW at h13;unfold jW at h14;replace h0:B.den G (cQ ([x0,x1,x2,x3,x4,x5,x6,x7]++[l0,l1,l2,l3,l4,l5])) bU=true:=h0;obtain⟨⟨t0,t1,t2,t3,t4⟩,⟨e0,e1,e2,e3,e4⟩,⟨f0,f1,f2,f3,f4⟩,⟨g1,g2,g3,g4⟩,w1,w2,w3,w4⟩:=bF h0;have h0':=h0;clear h0;simp only[nn,List.cons_append,List.nil_append,Bool.or_eq_true,aP,ne_eq]at h1 h2 h3 h4 h5 h6 h7 h8 h9 h10 h11 h12 h13 h14;(try simp (disch:=omega) only[w1,w2,w3,w4]at h1 h2 h3 h4 h5 h6 h7 h8 h9 h10 h11 h12 h13 h14);(try simp (disch:=omega) only[Int.tdiv_eq_ediv_of_nonneg]at *);simp only[bK];have key:aL x2 x4 l2 x3.toNat≤524288∧8*x7<aL x2 x4 l2 x3.toNat:=(by generalize aL x2 x4 l2 x3.toNat=a at *;generalize aL x2 x4 l2 0=a0 at *;generalize aL x2 x4 l2 1=a1 at *;generalize aL x2 x4 l2 2=a2 at *;generalize aL x2 x4 l2 3=a3 at *;generalize aL x2 x4 l2 4=a4 at *;generalize G 83 [l2,0,0]=c0 at *;generalize G 83 [l2,1,0]=c1 at *;generalize G 83 [l2,2,0]=c2 at *;generalize G 83 [l2,3,0]=c3 at *;omega);refine⟨?_,?_⟩;(show B.den G _ dM=false;unfold dM;simp only[aZ,h0',Bool.true_and];rw[Bool.eq_false_iff];intro q;simp only[Bool.and_eq_true]at q;simp only[nn,List.cons_append,List.nil_append,Bool.or_eq_true,aP,ne_eq]at q;have q1:aL x2 x4 l2 x3.toNat≤524288∧aL x2 x4 l2 x3.toNat≤8*x7:=q;omega);(simp only[aI];exact⟨iI h0' key.1,trivial⟩)
  refine aH aNK ?_
  unfold bY at h0;unfold cC at h1;unfold cE at h2;unfold cH at h3;unfold cJ at h4;unfold cI at h5;unfold cR at h6;unfold cK at h7;unfold cZ at h8;unfold dS at h9;unfold eY at h10;unfold iZ at h11;unfold gS at h12;unfold gW at h13;unfold jW at h14;replace h0:B.den G (cQ ([x0,x1,x2,x3,x4,x5,x6,x7]++[l0,l1,l2,l3,l4,l5])) bU=true:=h0;obtain⟨⟨t0,t1,t2,t3,t4⟩,⟨e0,e1,e2,e3,e4⟩,⟨f0,f1,f2,f3,f4⟩,⟨g1,g2,g3,g4⟩,w1,w2,w3,w4⟩:=bF h0;simp only[bK];refine⟨?_,trivial⟩;show B.den G _ dM=true;unfold dM;simp only[aZ,h0,Bool.true_and,Bool.and_eq_true];clear h0;simp only[nn,List.cons_append,List.nil_append,Bool.or_eq_true,aP,ne_eq]at h1 h2 h3 h4 h5 h6 h7 h8 h9 h10 h11 h12 h13 h14;(try simp (disch:=omega) only[w1,w2,w3,w4]at h1 h2 h3 h4 h5 h6 h7 h8 h9 h10 h11 h12 h13 h14);(try simp (disch:=omega) only[Int.tdiv_eq_ediv_of_nonneg]at *);simp only[nn,List.cons_append,List.nil_append,Bool.or_eq_true,aP,ne_eq];show aL x2 x4 l2 x3.toNat≤524288∧aL x2 x4 l2 x3.toNat≤8*x7;generalize aL x2 x4 l2 x3.toNat=a at *;generalize aL x2 x4 l2 0=a0 at *;generalize aL x2 x4 l2 1=a1 at *;generalize aL x2 x4 l2 2=a2 at *;generalize aL x2 x4 l2 3=a3 at *;generalize aL x2 x4 l2 4=a4 at *;generalize G 83 [l2,0,0]=c0 at *;generalize G 83 [l2,1,0]=c1 at *;generalize G 83 [l2,2,0]=c2 at *;generalize G 83 [l2,3,0]=c3 at *;omega
 refine aG gS (fun h12=>?_) (fun h12=>?_)
 rotate_left
 ·skip
  refine aQ ?_
  unfold bY at h0;unfold cC at h1;unfold cE at h2;unfold cH at h3;unfold cJ at h4;unfold cI at h5;unfold cR at h6;unfold cK at h7;unfold cZ at h8;unfold dS at h9;unfold eY at h10;unfold iZ at h11;unfold gS at h12;replace h0:B.den G (cQ ([x0,x1,x2,x3,x4,x5,x6,x7]++[l0,l1,l2,l3,l4,l5])) bU=true:=h0;obtain⟨⟨t0,t1,t2,t3,t4⟩,⟨e0,e1,e2,e3,e4⟩,⟨f0,f1,f2,f3,f4⟩,⟨g1,g2,g3,g4⟩,w1,w2,w3,w4⟩:=bF h0;exfalso;clear h0;simp only[nn,List.cons_append,List.nil_append,Bool.or_eq_true,aP,ne_eq]at h1 h2 h3 h4 h5 h6 h7 h8 h9 h10 h11 h12;(try simp (disch:=omega) only[w1,w2,w3,w4]at h1 h2 h3 h4 h5 h6 h7 h8 h9 h10 h11 h12);generalize aL x2 x4 l2 x3.toNat=a at *;generalize aL x2 x4 l2 0=a0 at *;generalize aL x2 x4 l2 1=a1 at *;generalize aL x2 x4 l2 2=a2 at *;generalize aL x2 x4 l2 3=a3 at *;generalize aL x2 x4 l2 4=a4 at *;generalize G 83 [l2,0,0]=c0 at *;generalize G 83 [l2,1,0]=c1 at *;generalize G 83 [l2,2,0]=c2 at *;generalize G 83 [l2,3,0]=c3 at *;omega
 refine aG gW (fun h13=>?_) (fun h13=>?_)
 ·skip
  refine aH aQN ?_
  unfold bY at h0;unfold cC at h1;unfold cE at h2;unfold cH at h3;unfold cJ at h4;unfold cI at h5;unfold cR at h6;unfold cK at h7;unfold cZ at h8;unfold dS at h9;unfold eY at h10;unfold iZ at h11;unfold gS at h12;unfold gW at h13;replace h0:B.den G (cQ ([x0,x1,x2,x3,x4,x5,x6,x7]++[l0,l1,l2,l3,l4,l5])) bU=true:=h0;obtain⟨⟨t0,t1,t2,t3,t4⟩,⟨e0,e1,e2,e3,e4⟩,⟨f0,f1,f2,f3,f4⟩,⟨g1,g2,g3,g4⟩,w1,w2,w3,w4⟩:=bF h0;have h0':=h0;clear h0;simp only[nn,List.cons_append,List.nil_append,Bool.or_eq_true,aP,ne_eq]at h1 h2 h3 h4 h5 h6 h7 h8 h9 h10 h11 h12 h13;(try simp (disch:=omega) only[w1,w2,w3,w4]at h1 h2 h3 h4 h5 h6 h7 h8 h9 h10 h11 h12 h13);(try simp (disch:=omega) only[Int.tdiv_eq_ediv_of_nonneg]at *);simp only[bK];have key:524288<aL x2 x4 l2 x3.toNat:=(by generalize aL x2 x4 l2 x3.toNat=a at *;generalize aL x2 x4 l2 0=a0 at *;generalize aL x2 x4 l2 1=a1 at *;generalize aL x2 x4 l2 2=a2 at *;generalize aL x2 x4 l2 3=a3 at *;generalize aL x2 x4 l2 4=a4 at *;generalize G 83 [l2,0,0]=c0 at *;generalize G 83 [l2,1,0]=c1 at *;generalize G 83 [l2,2,0]=c2 at *;generalize G 83 [l2,3,0]=c3 at *;omega);refine⟨?_,?_⟩;(show B.den G _ dM=false;unfold dM;simp only[aZ,h0',Bool.true_and];rw[Bool.eq_false_iff];intro q;simp only[Bool.and_eq_true]at q;simp only[nn,List.cons_append,List.nil_append,Bool.or_eq_true,aP,ne_eq]at q;have q1:aL x2 x4 l2 x3.toNat≤524288∧aL x2 x4 l2 x3.toNat≤8*x7:=q;omega);(simp only[aI];exact⟨lT h0' key,trivial⟩)
 refine aG jW (fun h14=>?_) (fun h14=>?_)
 ·skip
  refine aH aN5 ?_
  unfold bY at h0;unfold cC at h1;unfold cE at h2;unfold cH at h3;unfold cJ at h4;unfold cI at h5;unfold cR at h6;unfold cK at h7;unfold cZ at h8;unfold dS at h9;unfold eY at h10;unfold iZ at h11;unfold gS at h12;unfold gW at h13;unfold jW at h14;replace h0:B.den G (cQ ([x0,x1,x2,x3,x4,x5,x6,x7]++[l0,l1,l2,l3,l4,l5])) bU=true:=h0;obtain⟨⟨t0,t1,t2,t3,t4⟩,⟨e0,e1,e2,e3,e4⟩,⟨f0,f1,f2,f3,f4⟩,⟨g1,g2,g3,g4⟩,w1,w2,w3,w4⟩:=bF h0;have h0':=h0;clear h0;simp only[nn,List.cons_append,List.nil_append,Bool.or_eq_true,aP,ne_eq]at h1 h2 h3 h4 h5 h6 h7 h8 h9 h10 h11 h12 h13 h14;(try simp (disch:=omega) only[w1,w2,w3,w4]at h1 h2 h3 h4 h5 h6 h7 h8 h9 h10 h11 h12 h13 h14);(try simp (disch:=omega) only[Int.tdiv_eq_ediv_of_nonneg]at *);simp only[bK];have key:aL x2 x4 l2 x3.toNat≤524288∧8*x7<aL x2 x4 l2 x3.toNat:=(by generalize aL x2 x4 l2 x3.toNat=a at *;generalize aL x2 x4 l2 0=a0 at *;generalize aL x2 x4 l2 1=a1 at *;generalize aL x2 x4 l2 2=a2 at *;generalize aL x2 x4 l2 3=a3 at *;generalize aL x2 x4 l2 4=a4 at *;generalize G 83 [l2,0,0]=c0 at *;generalize G 83 [l2,1,0]=c1 at *;generalize G 83 [l2,2,0]=c2 at *;generalize G 83 [l2,3,0]=c3 at *;omega);refine⟨?_,?_⟩;(show B.den G _ dM=false;unfold dM;simp only[aZ,h0',Bool.true_and];rw[Bool.eq_false_iff];intro q;simp only[Bool.and_eq_true]at q;simp only[nn,List.cons_append,List.nil_append,Bool.or_eq_true,aP,ne_eq]at q;have q1:aL x2 x4 l2 x3.toNat≤524288∧aL x2 x4 l2 x3.toNat≤8*x7:=q;omega);(simp only[aI];exact⟨iI h0' key.1,trivial⟩)
 refine aH aQh ?_
 unfold bY at h0;unfold cC at h1;unfold cE at h2;unfold cH at h3;unfold cJ at h4;unfold cI at h5;unfold cR at h6;unfold cK at h7;unfold cZ at h8;unfold dS at h9;unfold eY at h10;unfold iZ at h11;unfold gS at h12;unfold gW at h13;unfold jW at h14;replace h0:B.den G (cQ ([x0,x1,x2,x3,x4,x5,x6,x7]++[l0,l1,l2,l3,l4,l5])) bU=true:=h0;obtain⟨⟨t0,t1,t2,t3,t4⟩,⟨e0,e1,e2,e3,e4⟩,⟨f0,f1,f2,f3,f4⟩,⟨g1,g2,g3,g4⟩,w1,w2,w3,w4⟩:=bF h0;simp only[bK];refine⟨?_,trivial⟩;show B.den G _ dM=true;unfold dM;simp only[aZ,h0,Bool.true_and,Bool.and_eq_true];clear h0;simp only[nn,List.cons_append,List.nil_append,Bool.or_eq_true,aP,ne_eq]at h1 h2 h3 h4 h5 h6 h7 h8 h9 h10 h11 h12 h13 h14;(try simp (disch:=omega) only[w1,w2,w3,w4]at h1 h2 h3 h4 h5 h6 h7 h8 h9 h10 h11 h12 h13 h14);(try simp (disch:=omega) only[Int.tdiv_eq_ediv_of_nonneg]at *);simp only[nn,List.cons_append,List.nil_append,Bool.or_eq_true,aP,ne_eq];show aL x2 x4 l2 x3.toNat≤524288∧aL x2 x4 l2 x3.toNat≤8*x7;generalize aL x2 x4 l2 x3.toNat=a at *;generalize aL x2 x4 l2 0=a0 at *;generalize aL x2 x4 l2 1=a1 at *;generalize aL x2 x4 l2 2=a2 at *;generalize aL x2 x4 l2 3=a3 at *;generalize aL x2 x4 l2 4=a4 at *;generalize G 83 [l2,0,0]=c0 at *;generalize G 83 [l2,1,0]=c1 at *;generalize G 83 [l2,2,0]=c2 at *;generalize G 83 [l2,3,0]=c3 at *;omega
def aC7:Ctx→List SV→aM→Res (SV × aM):=dW GB [(0,255),(0,8),(0,8),(0,8),((-9223372036854775808),9223372036854775807),(0,8),(0,8),(0,70000)] 6 (.lit true) aTK
theorem aVG {X:Ctx} {ρ:Nat→Int} (hX:X.Ok ρ) (hG:X.G=G):eV Try.prog X ρ GB 13 aC7:=by
 obtain⟨XG,XI,XV,XF⟩:=X
 simp only at hG
 subst hG
 refine cU hX ?_
 intro xs ls hw hl hp
 obtain⟨x0,y0,e0,b0,h0⟩:=aY hw
 obtain⟨x1,y1,e1,b1,h1⟩:=aY h0
 obtain⟨x2,y2,e2,b2,h2⟩:=aY h1
 obtain⟨x3,y3,e3,b3,h3⟩:=aY h2
 obtain⟨x4,y4,e4,b4,h4⟩:=aY h3
 obtain⟨x5,y5,e5,b5,h5⟩:=aY h4
 obtain⟨x6,y6,e6,b6,h6⟩:=aY h5
 obtain⟨x7,y7,e7,b7,h7⟩:=aY h6
 have e8:=jJ h7
 subst e8 e7 e6 e5 e4 e3 e2 e1 e0
 obtain⟨l0,z0,q0,hl0⟩:=bJ hl
 obtain⟨l1,z1,q1,hl1⟩:=bJ hl0
 obtain⟨l2,z2,q2,hl2⟩:=bJ hl1
 obtain⟨l3,z3,q3,hl3⟩:=bJ hl2
 obtain⟨l4,z4,q4,hl4⟩:=bJ hl3
 obtain⟨l5,z5,q5,hl5⟩:=bJ hl4
 have q6:=List.length_eq_zero_iff.1 hl5
 subst q6 q5 q4 q3 q2 q1 q0
 exact aTa x0 x1 x2 x3 x4 x5 x6 x7 l0 l1 l2 l3 l4 l5 b0 b1 b2 b3 b4 b5 b6 b7
def aSL:bA:=fQ 13 aC7 aJf
theorem aJs {X:Ctx} {ρ:Nat→Int} (hX:X.Ok ρ) (hG:X.G=G):fF Try.prog X ρ GB aSL:=dN (aVG hX hG) (aDR hX hG)
theorem aAG (B i:Int):0≤G 84 [B,i,0]∧G 84 [B,i,0]<256:=by
 have:=iT .u8 (Lc.rd3 [B,i,0])
 have e:G 84 [B,i,0]=IntKind.u8.wrap (Lc.rd3 [B,i,0]):=rfl
 rw[e]
 have h1:IntKind.u8.min=0:=rfl
 have h2:IntKind.u8.max=255:=rfl
 omega
theorem aFg (c:Int) (hc:0≤c∧c<256):bS .or .u64 0 c=c:=by
 have:=aGv 0 c ⟨by decide,by decide⟩ hc
 simpa using this
theorem zC {B nB a n v:Int} {k:Nat} (ha:0≤a) (hn:1≤n∧n≤16) (hi:a≤8*nB-n) (hk:(a+n+7) / 8-a / 8=k) (hv:v=aBs B (a / 8) k) (hb:0≤v∧v<4294967296):
  bS .and .u64 (Int.fdiv v (1*2 ^ (bS .and .i64 (0-(a+n)) 7).toNat)) (1*2 ^ n.toNat-1)=G 67 [B,nB,a,n]:=by
 rw[aNI,Int.one_mul]
 have p:(0:Int)<2 ^ ((0-(a+n)) % 8).toNat:=Int.pow_pos (by decide)
 rw[Int.fdiv_eq_ediv_of_nonneg _ (by omega)]
 have d0:=Int.ediv_nonneg hb.1 (show (0:Int)≤2 ^ ((0-(a+n)) % 8).toNat by omega)
 have d1:=Int.ediv_le_self (2 ^ ((0-(a+n)) % 8).toNat) hb.1
 rw[aSb _ n.toNat (by omega) ⟨d0,by omega⟩]
 show _=qU B nB a n
 unfold qU
 rw[if_neg (by omega),hk,Int.toNat_natCast,←hv]
 have q1:(2:Int) ^ n.toNat≤65536:=by
  have:2 ^ n.toNat≤2 ^ 16:=Nat.pow_le_pow_right (by decide) (by omega)
  have c:((2 ^ n.toNat:Nat):Int)=2 ^ n.toNat:=by rw[Int.natCast_pow];rfl
  omega
 have q0:(0:Int)<2 ^ n.toNat:=Int.pow_pos (by decide)
 generalize v / 2 ^ ((0-(a+n)) % 8).toNat=w at *
 have r0:=Int.emod_nonneg w (show (2:Int) ^ n.toNat≠0 by omega)
 have r1:=Int.emod_lt_of_pos w q0
 unfold iJ
 omega
section
variable {B nB a n:Int}
theorem aWa (ha:0≤a) (hn:1≤n∧n≤16) (hi:a≤8*nB-n) (hk:Int.tdiv (a+n+8-1) 8-Int.tdiv a 8=1):
  bS .and .u64 (Int.fdiv (bS .or .u64 0 (G 84 [B,Int.tdiv a 8,0])) (1*2 ^ (bS .and .i64 (0-(a+n)) 7).toNat)) (1*2 ^ n.toNat-1)=G 67 [B,nB,a,n]:=by
 rw[Int.tdiv_eq_ediv_of_nonneg ha,Int.tdiv_eq_ediv_of_nonneg (by omega)]at hk
 rw[Int.tdiv_eq_ediv_of_nonneg ha]
 have b0:=aAG B (a / 8)
 rw[aFg _ b0]
 refine zC (k:=1) ha hn hi (by omega) ?_ ⟨b0.1,by omega⟩
 show _=0*256+r8 B (a / 8+0) 0
 rw[Int.add_zero,Int.zero_mul,Int.zero_add];rfl
theorem aVQ (ha:0≤a) (hn:1≤n∧n≤16) (hi:a≤8*nB-n) (hk:Int.tdiv (a+n+8-1) 8-Int.tdiv a 8=2):
  bS .and .u64 (Int.fdiv (bS .or .u64 (IntKind.u64.wrap (bS .or .u64 0 (G 84 [B,Int.tdiv a 8,0])*256)) (G 84 [B,Int.tdiv a 8+1,0])) (1*2 ^ (bS .and .i64 (0-(a+n)) 7).toNat)) (1*2 ^ n.toNat-1)=G 67 [B,nB,a,n]:=by
 rw[Int.tdiv_eq_ediv_of_nonneg ha,Int.tdiv_eq_ediv_of_nonneg (by omega)]at hk
 rw[Int.tdiv_eq_ediv_of_nonneg ha]
 have b0:=aAG B (a / 8)
 have b1:=aAG B (a / 8+1)
 rw[aFg _ b0,IntKind.wrap_u64,Int.emod_eq_of_lt (by omega) (by omega),aGv _ _ ⟨b0.1,by omega⟩ b1]
 refine zC (k:=2) ha hn hi (by omega) ?_ ⟨by omega,by omega⟩
 show _=(0*256+r8 B (a / 8+0) 0)*256+r8 B (a / 8+1) 0
 rw[Int.add_zero,Int.zero_mul,Int.zero_add];rfl
theorem aWf (ha:0≤a) (hn:1≤n∧n≤16) (hi:a≤8*nB-n) (hk:Int.tdiv (a+n+8-1) 8-Int.tdiv a 8=3):
  bS .and .u64 (Int.fdiv (bS .or .u64 (IntKind.u64.wrap (bS .or .u64 (IntKind.u64.wrap (bS .or .u64 0 (G 84 [B,Int.tdiv a 8,0])*256)) (G 84 [B,Int.tdiv a 8+1,0])*256)) (G 84 [B,Int.tdiv a 8+2,0])) (1*2 ^ (bS .and .i64 (0-(a+n)) 7).toNat)) (1*2 ^ n.toNat-1)=G 67 [B,nB,a,n]:=by
 rw[Int.tdiv_eq_ediv_of_nonneg ha,Int.tdiv_eq_ediv_of_nonneg (by omega)]at hk
 rw[Int.tdiv_eq_ediv_of_nonneg ha]
 have b0:=aAG B (a / 8)
 have b1:=aAG B (a / 8+1)
 have b2:=aAG B (a / 8+2)
 have w1:IntKind.u64.wrap (G 84 [B,a / 8,0]*256)=G 84 [B,a / 8,0]*256:=by rw[IntKind.wrap_u64];exact Int.emod_eq_of_lt (by omega) (by omega)
 have w2:IntKind.u64.wrap ((G 84 [B,a / 8,0]*256+G 84 [B,a / 8+1,0])*256)=(G 84 [B,a / 8,0]*256+G 84 [B,a / 8+1,0])*256:=by rw[IntKind.wrap_u64];exact Int.emod_eq_of_lt (by omega) (by omega)
 rw[aFg _ b0,w1,aGv _ _ ⟨b0.1,by omega⟩ b1,w2,aGv _ _ ⟨by omega,by omega⟩ b2]
 refine zC (k:=3) ha hn hi (by omega) ?_ ⟨by omega,by omega⟩
 show _=((0*256+r8 B (a / 8+0) 0)*256+r8 B (a / 8+1) 0)*256+r8 B (a / 8+2) 0
 rw[Int.add_zero,Int.zero_mul,Int.zero_add];rfl
theorem aVg (h:8*nB-n<a):(0:Int)=G 67 [B,nB,a,n]∧(5:Int)=G 69 [nB,a,n]:=by
 refine⟨?_,?_⟩
 ·show _=qU B nB a n
  unfold qU
  rw[if_pos (.inr (.inr (.inr h)))]
 ·show _=if 8*nB-n<a then (5:Int) else 0
  rw[if_pos h]
theorem aCo (h:a≤8*nB-n):(0:Int)=G 69 [nB,a,n]:=by
 show _=if 8*nB-n<a then (5:Int) else 0
 rw[if_neg (by omega)]
end
end Go.Proofs.Ytdldallkeheciaa
