/- What is proved: lists that are marked,as they are told. No condition but the numbers' own bounds. -/
import Derived.Test.YtkpdiehbaiepaaaQNn
import Derived.Test.YtkpdiehbaiepaaaQa1
import Derived.Test.YtkpdiehbaiepaaaQa3
import Derived.Test.YtkpdiehbaiepaaaQa4
set_option linter.unusedSimpArgs false
set_option linter.unusedVariables false
namespace Go.Proofs.Ytkpdiehbaiepaaa
open Go Go.RowKit Sx Wi
theorem aBy:bD (aY Try.prog 85)=[bC (aY Try.prog 85) 0,bC (aY Try.prog 85) 1]:=by kernel_rfl
def aW (N:Int) (a:Nat):Nat→Int:=dJ ([N]++[(a:Int)])
theorem aBM (N:Int) (b0:1≤N∧N≤10000) (a:Nat) (ha:(a:Int)≤N+24):∀ i q,sQ[i]?=some q→q.1≤aW N a i∧aW N a i≤q.2:=by
 unfold aW sQ
 exact cM (xs:=[N,(a:Int)]) (by exact⟨b0,by omega,trivial⟩)
set_option maxHeartbeats 4000000 in
set_option maxRecDepth 100000 in
theorem aMB (N:Int) (b0:1≤N∧N≤10000) (a:Nat) (ha:(a:Int)≤N+24):Sx.sC (rZ Try.prog) G (aW N a) (aZ G (aW N) (dJ [N]) 1 (.lit true) (fun a=>(a:Int)≤N+24) (fun a=>(N+24).toNat-a) a) []:=by
 refine aG bJ (fun h0=>?_) (fun h0=>?_)
 rotate_left
 ·skip
  refine aH aEr ?_
  unfold bJ at h0;simp only[aZ];exact⟨rfl,gA (by simp),by simp only[aU]⟩
 refine aG bQ (fun h1=>?_) (fun h1=>?_)
 rotate_left
 ·skip
  refine aM ?_
  unfold bJ at h0;unfold bQ at h1;exfalso;simp only[nn,aW,List.cons_append,List.nil_append,Bool.or_eq_true,aV,ne_eq]at h0 h1;have q:G 83 [G 96 [N+24,0,0,0,0,0,0,1,0,0,0,0,0],(a:Int),0]=0:=bF .i64 (N+24) (a:Int) 0 [0,0,0,0,0,0,1,0,0,0,0,0] ⟨by omega,by clear h1;omega⟩;exact absurd q h1
 refine aG bT (fun h2=>?_) (fun h2=>?_)
 rotate_left
 ·skip
  refine aM ?_
  unfold bJ at h0;unfold bQ at h1;unfold bT at h2;exfalso;simp only[nn,aW,List.cons_append,List.nil_append,Bool.or_eq_true,aV,ne_eq]at h0 h2;have q:G 83 [G 96 [N+24,0,0,0,0,0,0,1,0,0,0,0,0],(a:Int),1]=0:=bF .i64 (N+24) (a:Int) 1 [0,0,0,0,0,0,1,0,0,0,0,0] ⟨by omega,by clear h1 h2;omega⟩;exact absurd q h2
 refine aG bV (fun h3=>?_) (fun h3=>?_)
 rotate_left
 ·skip
  refine aM ?_
  unfold bJ at h0;unfold bQ at h1;unfold bT at h2;unfold bV at h3;exfalso;simp only[nn,aW,List.cons_append,List.nil_append,Bool.or_eq_true,aV,ne_eq]at h0 h3;have q:G 83 [G 96 [N+24,0,0,0,0,0,0,1,0,0,0,0,0],(a:Int),2]=0:=bF .i64 (N+24) (a:Int) 2 [0,0,0,0,0,0,1,0,0,0,0,0] ⟨by omega,by clear h1 h2 h3;omega⟩;exact absurd q h3
 refine aG cB (fun h4=>?_) (fun h4=>?_)
 rotate_left
 ·skip
  refine aM ?_
  unfold bJ at h0;unfold bQ at h1;unfold bT at h2;unfold bV at h3;unfold cB at h4;exfalso;simp only[nn,aW,List.cons_append,List.nil_append,Bool.or_eq_true,aV,ne_eq]at h0 h4;have q:G 83 [G 96 [N+24,0,0,0,0,0,0,1,0,0,0,0,0],(a:Int),3]=0:=bF .i64 (N+24) (a:Int) 3 [0,0,0,0,0,0,1,0,0,0,0,0] ⟨by omega,by clear h1 h2 h3 h4;omega⟩;exact absurd q h4
 refine aG cF (fun h5=>?_) (fun h5=>?_)
 rotate_left
 ·skip
  refine aM ?_
  unfold bJ at h0;unfold bQ at h1;unfold bT at h2;unfold bV at h3;unfold cB at h4;unfold cF at h5;exfalso;simp only[nn,aW,List.cons_append,List.nil_append,Bool.or_eq_true,aV,ne_eq]at h0 h5;have q:G 83 [G 96 [N+24,0,0,0,0,0,0,1,0,0,0,0,0],(a:Int),4]=0:=bF .i64 (N+24) (a:Int) 4 [0,0,0,0,0,0,1,0,0,0,0,0] ⟨by omega,by clear h1 h2 h3 h4 h5;omega⟩;exact absurd q h5
 refine aG cK (fun h6=>?_) (fun h6=>?_)
 rotate_left
 ·skip
  refine aM ?_
  unfold bJ at h0;unfold bQ at h1;unfold bT at h2;unfold bV at h3;unfold cB at h4;unfold cF at h5;unfold cK at h6;exfalso;simp only[nn,aW,List.cons_append,List.nil_append,Bool.or_eq_true,aV,ne_eq]at h0 h6;have q:G 83 [G 96 [N+24,0,0,0,0,0,0,1,0,0,0,0,0],(a:Int),5]=0:=bF .i64 (N+24) (a:Int) 5 [0,0,0,0,0,0,1,0,0,0,0,0] ⟨by omega,by clear h1 h2 h3 h4 h5 h6;omega⟩;exact absurd q h6
 refine aG cN (fun h7=>?_) (fun h7=>?_)
 rotate_left
 ·skip
  refine aM ?_
  unfold bJ at h0;unfold bQ at h1;unfold bT at h2;unfold bV at h3;unfold cB at h4;unfold cF at h5;unfold cK at h6;unfold cN at h7;exfalso;simp only[nn,aW,List.cons_append,List.nil_append,Bool.or_eq_true,aV,ne_eq]at h0 h7;have q:G 82 [G 96 [N+24,0,0,0,0,0,0,1,0,0,0,0,0],(a:Int),6]=1:=bF .i32 (N+24) (a:Int) 6 [0,0,0,0,0,0,1,0,0,0,0,0] ⟨by omega,by clear h1 h2 h3 h4 h5 h6 h7;omega⟩;exact absurd q h7
 refine aG cV (fun h8=>?_) (fun h8=>?_)
 rotate_left
 ·skip
  refine aM ?_
  unfold bJ at h0;unfold bQ at h1;unfold bT at h2;unfold bV at h3;unfold cB at h4;unfold cF at h5;unfold cK at h6;unfold cN at h7;unfold cV at h8;exfalso;simp only[nn,aW,List.cons_append,List.nil_append,Bool.or_eq_true,aV,ne_eq]at h0 h8;have q:G 82 [G 96 [N+24,0,0,0,0,0,0,1,0,0,0,0,0],(a:Int),7]=0:=bF .i32 (N+24) (a:Int) 7 [0,0,0,0,0,0,1,0,0,0,0,0] ⟨by omega,by clear h1 h2 h3 h4 h5 h6 h7 h8;omega⟩;exact absurd q h8
 refine aG dB (fun h9=>?_) (fun h9=>?_)
 rotate_left
 ·skip
  refine aM ?_
  unfold bJ at h0;unfold bQ at h1;unfold bT at h2;unfold bV at h3;unfold cB at h4;unfold cF at h5;unfold cK at h6;unfold cN at h7;unfold cV at h8;unfold dB at h9;exfalso;simp only[nn,aW,List.cons_append,List.nil_append,Bool.or_eq_true,aV,ne_eq]at h0 h9;have q:G 82 [G 96 [N+24,0,0,0,0,0,0,1,0,0,0,0,0],(a:Int),8]=0:=bF .i32 (N+24) (a:Int) 8 [0,0,0,0,0,0,1,0,0,0,0,0] ⟨by omega,by clear h1 h2 h3 h4 h5 h6 h7 h8 h9;omega⟩;exact absurd q h9
 refine aG cS (fun h10=>?_) (fun h10=>?_)
 rotate_left
 ·skip
  refine aM ?_
  unfold bJ at h0;unfold bQ at h1;unfold bT at h2;unfold bV at h3;unfold cB at h4;unfold cF at h5;unfold cK at h6;unfold cN at h7;unfold cV at h8;unfold dB at h9;unfold cS at h10;exfalso;simp only[nn,aW,List.cons_append,List.nil_append,Bool.or_eq_true,aV,ne_eq]at h0 h10;have q:G 82 [G 96 [N+24,0,0,0,0,0,0,1,0,0,0,0,0],(a:Int),9]=0:=bF .i32 (N+24) (a:Int) 9 [0,0,0,0,0,0,1,0,0,0,0,0] ⟨by omega,by clear h1 h2 h3 h4 h5 h6 h7 h8 h9 h10;omega⟩;exact absurd q h10
 refine aG cZ (fun h11=>?_) (fun h11=>?_)
 rotate_left
 ·skip
  refine aM ?_
  unfold bJ at h0;unfold bQ at h1;unfold bT at h2;unfold bV at h3;unfold cB at h4;unfold cF at h5;unfold cK at h6;unfold cN at h7;unfold cV at h8;unfold dB at h9;unfold cS at h10;unfold cZ at h11;exfalso;simp only[nn,aW,List.cons_append,List.nil_append,Bool.or_eq_true,aV,ne_eq]at h0 h11;have q:G 82 [G 96 [N+24,0,0,0,0,0,0,1,0,0,0,0,0],(a:Int),10]=0:=bF .i32 (N+24) (a:Int) 10 [0,0,0,0,0,0,1,0,0,0,0,0] ⟨by omega,by clear h1 h2 h3 h4 h5 h6 h7 h8 h9 h10 h11;omega⟩;exact absurd q h11
 refine aG dI (fun h12=>?_) (fun h12=>?_)
 rotate_left
 ·skip
  refine aM ?_
  unfold bJ at h0;unfold bQ at h1;unfold bT at h2;unfold bV at h3;unfold cB at h4;unfold cF at h5;unfold cK at h6;unfold cN at h7;unfold cV at h8;unfold dB at h9;unfold cS at h10;unfold cZ at h11;unfold dI at h12;exfalso;simp only[nn,aW,List.cons_append,List.nil_append,Bool.or_eq_true,aV,ne_eq]at h0 h12;have q:G 82 [G 96 [N+24,0,0,0,0,0,0,1,0,0,0,0,0],(a:Int),11]=0:=bF .i32 (N+24) (a:Int) 11 [0,0,0,0,0,0,1,0,0,0,0,0] ⟨by omega,by clear h1 h2 h3 h4 h5 h6 h7 h8 h9 h10 h11 h12;omega⟩;exact absurd q h12
 refine aG dG (fun h13=>?_) (fun h13=>?_)
 rotate_left
 ·skip
  refine aH aD5 ?_
  unfold bJ at h0;unfold bQ at h1;unfold bT at h2;unfold bV at h3;unfold cB at h4;unfold cF at h5;unfold cK at h6;unfold cN at h7;unfold cV at h8;unfold dB at h9;unfold cS at h10;unfold cZ at h11;unfold dI at h12;unfold dG at h13;simp only[nn,aW,List.cons_append,List.nil_append,Bool.or_eq_true,aV,ne_eq]at h0;have hm:(N+24).toNat-(a+1)<(N+24).toNat-a:=(by clear h1 h2 h3 h4 h5 h6 h7 h8 h9 h10 h11 h12 h13;omega);have hg:((a+1:Nat):Int)≤N+24:=(by clear h1 h2 h3 h4 h5 h6 h7 h8 h9 h10 h11 h12 h13;omega);clear h0 h1 h2 h3 h4 h5 h6 h7 h8 h9 h10 h11 h12 h13;simp only[aZ];refine⟨a+1,hg,hm,cP (by simp),?_⟩;simp only[aU];clear hm hg;simp only[nn,Int.natCast_add,Int.cast_ofNat_Int,Int.natCast_one,aW,List.cons_append,List.nil_append,Bool.or_eq_true,aV,ne_eq];try ((repeat' refine And.intro ?_ ?_)<;>first|with_reducible rfl|with_reducible trivial)
 refine aG dW (fun h14=>?_) (fun h14=>?_)
 rotate_left
 ·skip
  refine aM ?_
  unfold bJ at h0;unfold bQ at h1;unfold bT at h2;unfold bV at h3;unfold cB at h4;unfold cF at h5;unfold cK at h6;unfold cN at h7;unfold cV at h8;unfold dB at h9;unfold cS at h10;unfold cZ at h11;unfold dI at h12;unfold dG at h13;unfold dW at h14;exfalso;simp only[nn,aW,List.cons_append,List.nil_append,Bool.or_eq_true,aV,ne_eq]at h0 h13 h14;have q:G 83 [G 96 [N,0,0,0,0,0,0,1,0,0,0,0,0],(a:Int),0]=0:=bF .i64 (N) (a:Int) 0 [0,0,0,0,0,0,1,0,0,0,0,0] ⟨by omega,by clear h1 h2 h3 h4 h5 h6 h7 h8 h9 h10 h11 h12 h14;omega⟩;exact absurd q h14
 refine aG eB (fun h15=>?_) (fun h15=>?_)
 rotate_left
 ·skip
  refine aM ?_
  unfold bJ at h0;unfold bQ at h1;unfold bT at h2;unfold bV at h3;unfold cB at h4;unfold cF at h5;unfold cK at h6;unfold cN at h7;unfold cV at h8;unfold dB at h9;unfold cS at h10;unfold cZ at h11;unfold dI at h12;unfold dG at h13;unfold dW at h14;unfold eB at h15;exfalso;simp only[nn,aW,List.cons_append,List.nil_append,Bool.or_eq_true,aV,ne_eq]at h0 h13 h15;have q:G 83 [G 96 [N,0,0,0,0,0,0,1,0,0,0,0,0],(a:Int),1]=0:=bF .i64 (N) (a:Int) 1 [0,0,0,0,0,0,1,0,0,0,0,0] ⟨by omega,by clear h1 h2 h3 h4 h5 h6 h7 h8 h9 h10 h11 h12 h14 h15;omega⟩;exact absurd q h15
 refine aG eO (fun h16=>?_) (fun h16=>?_)
 rotate_left
 ·skip
  refine aM ?_
  unfold bJ at h0;unfold bQ at h1;unfold bT at h2;unfold bV at h3;unfold cB at h4;unfold cF at h5;unfold cK at h6;unfold cN at h7;unfold cV at h8;unfold dB at h9;unfold cS at h10;unfold cZ at h11;unfold dI at h12;unfold dG at h13;unfold dW at h14;unfold eB at h15;unfold eO at h16;exfalso;simp only[nn,aW,List.cons_append,List.nil_append,Bool.or_eq_true,aV,ne_eq]at h0 h13 h16;have q:G 83 [G 96 [N,0,0,0,0,0,0,1,0,0,0,0,0],(a:Int),2]=0:=bF .i64 (N) (a:Int) 2 [0,0,0,0,0,0,1,0,0,0,0,0] ⟨by omega,by clear h1 h2 h3 h4 h5 h6 h7 h8 h9 h10 h11 h12 h14 h15 h16;omega⟩;exact absurd q h16
 refine aG eW (fun h17=>?_) (fun h17=>?_)
 rotate_left
 ·skip
  refine aM ?_
  unfold bJ at h0;unfold bQ at h1;unfold bT at h2;unfold bV at h3;unfold cB at h4;unfold cF at h5;unfold cK at h6;unfold cN at h7;unfold cV at h8;unfold dB at h9;unfold cS at h10;unfold cZ at h11;unfold dI at h12;unfold dG at h13;unfold dW at h14;unfold eB at h15;unfold eO at h16;unfold eW at h17;exfalso;simp only[nn,aW,List.cons_append,List.nil_append,Bool.or_eq_true,aV,ne_eq]at h0 h13 h17;have q:G 83 [G 96 [N,0,0,0,0,0,0,1,0,0,0,0,0],(a:Int),3]=0:=bF .i64 (N) (a:Int) 3 [0,0,0,0,0,0,1,0,0,0,0,0] ⟨by omega,by clear h1 h2 h3 h4 h5 h6 h7 h8 h9 h10 h11 h12 h14 h15 h16 h17;omega⟩;exact absurd q h17
 refine aG fH (fun h18=>?_) (fun h18=>?_)
 rotate_left
 ·skip
  refine aM ?_
  unfold bJ at h0;unfold bQ at h1;unfold bT at h2;unfold bV at h3;unfold cB at h4;unfold cF at h5;unfold cK at h6;unfold cN at h7;unfold cV at h8;unfold dB at h9;unfold cS at h10;unfold cZ at h11;unfold dI at h12;unfold dG at h13;unfold dW at h14;unfold eB at h15;unfold eO at h16;unfold eW at h17;unfold fH at h18;exfalso;simp only[nn,aW,List.cons_append,List.nil_append,Bool.or_eq_true,aV,ne_eq]at h0 h13 h18;have q:G 83 [G 96 [N,0,0,0,0,0,0,1,0,0,0,0,0],(a:Int),4]=0:=bF .i64 (N) (a:Int) 4 [0,0,0,0,0,0,1,0,0,0,0,0] ⟨by omega,by clear h1 h2 h3 h4 h5 h6 h7 h8 h9 h10 h11 h12 h14 h15 h16 h17 h18;omega⟩;exact absurd q h18
 refine aG fV (fun h19=>?_) (fun h19=>?_)
 rotate_left
 ·skip
  refine aM ?_
  unfold bJ at h0;unfold bQ at h1;unfold bT at h2;unfold bV at h3;unfold cB at h4;unfold cF at h5;unfold cK at h6;unfold cN at h7;unfold cV at h8;unfold dB at h9;unfold cS at h10;unfold cZ at h11;unfold dI at h12;unfold dG at h13;unfold dW at h14;unfold eB at h15;unfold eO at h16;unfold eW at h17;unfold fH at h18;unfold fV at h19;exfalso;simp only[nn,aW,List.cons_append,List.nil_append,Bool.or_eq_true,aV,ne_eq]at h0 h13 h19;have q:G 83 [G 96 [N,0,0,0,0,0,0,1,0,0,0,0,0],(a:Int),5]=0:=bF .i64 (N) (a:Int) 5 [0,0,0,0,0,0,1,0,0,0,0,0] ⟨by omega,by clear h1 h2 h3 h4 h5 h6 h7 h8 h9 h10 h11 h12 h14 h15 h16 h17 h18 h19;omega⟩;exact absurd q h19
 refine aG gJ (fun h20=>?_) (fun h20=>?_)
 rotate_left
 ·skip
  refine aM ?_
  unfold bJ at h0;unfold bQ at h1;unfold bT at h2;unfold bV at h3;unfold cB at h4;unfold cF at h5;unfold cK at h6;unfold cN at h7;unfold cV at h8;unfold dB at h9;unfold cS at h10;unfold cZ at h11;unfold dI at h12;unfold dG at h13;unfold dW at h14;unfold eB at h15;unfold eO at h16;unfold eW at h17;unfold fH at h18;unfold fV at h19;unfold gJ at h20;exfalso;simp only[nn,aW,List.cons_append,List.nil_append,Bool.or_eq_true,aV,ne_eq]at h0 h13 h20;have q:G 82 [G 96 [N,0,0,0,0,0,0,1,0,0,0,0,0],(a:Int),6]=1:=bF .i32 (N) (a:Int) 6 [0,0,0,0,0,0,1,0,0,0,0,0] ⟨by omega,by clear h1 h2 h3 h4 h5 h6 h7 h8 h9 h10 h11 h12 h14 h15 h16 h17 h18 h19 h20;omega⟩;exact absurd q h20
 refine aG iF (fun h21=>?_) (fun h21=>?_)
 rotate_left
 ·skip
  refine aM ?_
  unfold bJ at h0;unfold bQ at h1;unfold bT at h2;unfold bV at h3;unfold cB at h4;unfold cF at h5;unfold cK at h6;unfold cN at h7;unfold cV at h8;unfold dB at h9;unfold cS at h10;unfold cZ at h11;unfold dI at h12;unfold dG at h13;unfold dW at h14;unfold eB at h15;unfold eO at h16;unfold eW at h17;unfold fH at h18;unfold fV at h19;unfold gJ at h20;unfold iF at h21;exfalso;simp only[nn,aW,List.cons_append,List.nil_append,Bool.or_eq_true,aV,ne_eq]at h0 h13 h21;have q:G 82 [G 96 [N,0,0,0,0,0,0,1,0,0,0,0,0],(a:Int),7]=0:=bF .i32 (N) (a:Int) 7 [0,0,0,0,0,0,1,0,0,0,0,0] ⟨by omega,by clear h1 h2 h3 h4 h5 h6 h7 h8 h9 h10 h11 h12 h14 h15 h16 h17 h18 h19 h20 h21;omega⟩;exact absurd q h21
 refine aG iX (fun h22=>?_) (fun h22=>?_)
 rotate_left
 ·skip
  refine aM ?_
  unfold bJ at h0;unfold bQ at h1;unfold bT at h2;unfold bV at h3;unfold cB at h4;unfold cF at h5;unfold cK at h6;unfold cN at h7;unfold cV at h8;unfold dB at h9;unfold cS at h10;unfold cZ at h11;unfold dI at h12;unfold dG at h13;unfold dW at h14;unfold eB at h15;unfold eO at h16;unfold eW at h17;unfold fH at h18;unfold fV at h19;unfold gJ at h20;unfold iF at h21;unfold iX at h22;exfalso;simp only[nn,aW,List.cons_append,List.nil_append,Bool.or_eq_true,aV,ne_eq]at h0 h13 h22;have q:G 82 [G 96 [N,0,0,0,0,0,0,1,0,0,0,0,0],(a:Int),8]=0:=bF .i32 (N) (a:Int) 8 [0,0,0,0,0,0,1,0,0,0,0,0] ⟨by omega,by clear h1 h2 h3 h4 h5 h6 h7 h8 h9 h10 h11 h12 h14 h15 h16 h17 h18 h19 h20 h21 h22;omega⟩;exact absurd q h22
 refine aG jW (fun h23=>?_) (fun h23=>?_)
 rotate_left
 ·skip
  refine aM ?_
  unfold bJ at h0;unfold bQ at h1;unfold bT at h2;unfold bV at h3;unfold cB at h4;unfold cF at h5;unfold cK at h6;unfold cN at h7;unfold cV at h8;unfold dB at h9;unfold cS at h10;unfold cZ at h11;unfold dI at h12;unfold dG at h13;unfold dW at h14;unfold eB at h15;unfold eO at h16;unfold eW at h17;unfold fH at h18;unfold fV at h19;unfold gJ at h20;unfold iF at h21;unfold iX at h22;unfold jW at h23;exfalso;simp only[nn,aW,List.cons_append,List.nil_append,Bool.or_eq_true,aV,ne_eq]at h0 h13 h23;have q:G 82 [G 96 [N,0,0,0,0,0,0,1,0,0,0,0,0],(a:Int),9]=0:=bF .i32 (N) (a:Int) 9 [0,0,0,0,0,0,1,0,0,0,0,0] ⟨by omega,by clear h1 h2 h3 h4 h5 h6 h7 h8 h9 h10 h11 h12 h14 h15 h16 h17 h18 h19 h20 h21 h22 h23;omega⟩;exact absurd q h23
 refine aG kZ (fun h24=>?_) (fun h24=>?_)
 rotate_left
 ·skip
  refine aM ?_
  unfold bJ at h0;unfold bQ at h1;unfold bT at h2;unfold bV at h3;unfold cB at h4;unfold cF at h5;unfold cK at h6;unfold cN at h7;unfold cV at h8;unfold dB at h9;unfold cS at h10;unfold cZ at h11;unfold dI at h12;unfold dG at h13;unfold dW at h14;unfold eB at h15;unfold eO at h16;unfold eW at h17;unfold fH at h18;unfold fV at h19;unfold gJ at h20;unfold iF at h21;unfold iX at h22;unfold jW at h23;unfold kZ at h24;exfalso;simp only[nn,aW,List.cons_append,List.nil_append,Bool.or_eq_true,aV,ne_eq]at h0 h13 h24;have q:G 82 [G 96 [N,0,0,0,0,0,0,1,0,0,0,0,0],(a:Int),10]=0:=bF .i32 (N) (a:Int) 10 [0,0,0,0,0,0,1,0,0,0,0,0] ⟨by omega,by clear h1 h2 h3 h4 h5 h6 h7 h8 h9 h10 h11 h12 h14 h15 h16 h17 h18 h19 h20 h21 h22 h23 h24;omega⟩;exact absurd q h24
 refine aG mR (fun h25=>?_) (fun h25=>?_)
 ·skip
  refine aH aDR ?_
  unfold bJ at h0;unfold bQ at h1;unfold bT at h2;unfold bV at h3;unfold cB at h4;unfold cF at h5;unfold cK at h6;unfold cN at h7;unfold cV at h8;unfold dB at h9;unfold cS at h10;unfold cZ at h11;unfold dI at h12;unfold dG at h13;unfold dW at h14;unfold eB at h15;unfold eO at h16;unfold eW at h17;unfold fH at h18;unfold fV at h19;unfold gJ at h20;unfold iF at h21;unfold iX at h22;unfold jW at h23;unfold kZ at h24;unfold mR at h25;simp only[nn,aW,List.cons_append,List.nil_append,Bool.or_eq_true,aV,ne_eq]at h0;have hm:(N+24).toNat-(a+1)<(N+24).toNat-a:=(by clear h1 h2 h3 h4 h5 h6 h7 h8 h9 h10 h11 h12 h13 h14 h15 h16 h17 h18 h19 h20 h21 h22 h23 h24 h25;omega);have hg:((a+1:Nat):Int)≤N+24:=(by clear h1 h2 h3 h4 h5 h6 h7 h8 h9 h10 h11 h12 h13 h14 h15 h16 h17 h18 h19 h20 h21 h22 h23 h24 h25;omega);clear h0 h1 h2 h3 h4 h5 h6 h7 h8 h9 h10 h11 h12 h13 h14 h15 h16 h17 h18 h19 h20 h21 h22 h23 h24 h25;simp only[aZ];refine⟨a+1,hg,hm,cP (by simp),?_⟩;simp only[aU];clear hm hg;simp only[nn,Int.natCast_add,Int.cast_ofNat_Int,Int.natCast_one,aW,List.cons_append,List.nil_append,Bool.or_eq_true,aV,ne_eq];try ((repeat' refine And.intro ?_ ?_)<;>first|with_reducible rfl|with_reducible trivial)
 refine aM ?_
 unfold bJ at h0;unfold bQ at h1;unfold bT at h2;unfold bV at h3;unfold cB at h4;unfold cF at h5;unfold cK at h6;unfold cN at h7;unfold cV at h8;unfold dB at h9;unfold cS at h10;unfold cZ at h11;unfold dI at h12;unfold dG at h13;unfold dW at h14;unfold eB at h15;unfold eO at h16;unfold eW at h17;unfold fH at h18;unfold fV at h19;unfold gJ at h20;unfold iF at h21;unfold iX at h22;unfold jW at h23;unfold kZ at h24;unfold mR at h25;exfalso;simp only[nn,aW,List.cons_append,List.nil_append,Bool.or_eq_true,aV,ne_eq]at h0 h13 h25;have q:G 82 [G 96 [N,0,0,0,0,0,0,1,0,0,0,0,0],(a:Int),11]=0:=bF .i32 (N) (a:Int) 11 [0,0,0,0,0,0,1,0,0,0,0,0] ⟨by omega,by clear h1 h2 h3 h4 h5 h6 h7 h8 h9 h10 h11 h12 h14 h15 h16 h17 h18 h19 h20 h21 h22 h23 h24 h25;omega⟩;exact absurd q h25
set_option maxRecDepth 100000 in
theorem aLL (N:Int) (b0:1≤N∧N≤10000):dY Try.prog G (bX GB) (bC (aY Try.prog 85) 1) aCF (dJ [N]):=by
 intro _ _
 have e:fM G (dJ [N]) aCF.es=aW N 0:=by
  rw[cR]
  rfl
 rw[e]
 exact⟨(N+24).toNat+1,bU (ι:=Nat) (ρ:=aW N) (ρT:=dJ [N]) (m:=fun a=>(N+24).toNat-a) (Good:=fun a=>(a:Int)≤N+24) (run:=rZ Try.prog) (fun _=>rfl) fits rfl eE (fun a ha=>aBM N b0 a ha) (fun _ _ X hX hG=>bO hX hG) (fun _ _ X hX hG=>cJ) (fun a ha=>aMB N b0 a ha) (by decide) _ 0 (by show ((0:Nat):Int)≤N+24;omega) (by show (N+24).toNat-0<_;omega)⟩
set_option maxHeartbeats 4000000 in
set_option maxRecDepth 100000 in
theorem aMK (N:Int) (b0:1≤N∧N≤10000) (a:Nat) (ha:(a:Int)≤N+24):Sx.sC (rW Try.prog) G (aW N a) (aZ G (aW N) (dJ [N]) 1 (.lit true) (fun a=>(a:Int)≤N+24) (fun a=>(N+24).toNat-a) a) []:=by
 refine aG bK (fun h0=>?_) (fun h0=>?_)
 rotate_left
 ·skip
  refine aH aEq ?_
  unfold bK at h0;simp only[aZ];exact⟨rfl,gA (by simp),by simp only[aU]⟩
 refine aG bP (fun h1=>?_) (fun h1=>?_)
 rotate_left
 ·skip
  refine aM ?_
  unfold bK at h0;unfold bP at h1;exfalso;simp only[nn,aW,List.cons_append,List.nil_append,Bool.or_eq_true,aV,ne_eq]at h0 h1;have q:G 83 [G 96 [N+24,0,0,0,0,0,0,2,0,0,0,0,0],(a:Int),0]=0:=bF .i64 (N+24) (a:Int) 0 [0,0,0,0,0,0,2,0,0,0,0,0] ⟨by omega,by clear h1;omega⟩;exact absurd q h1
 refine aG bR (fun h2=>?_) (fun h2=>?_)
 rotate_left
 ·skip
  refine aM ?_
  unfold bK at h0;unfold bP at h1;unfold bR at h2;exfalso;simp only[nn,aW,List.cons_append,List.nil_append,Bool.or_eq_true,aV,ne_eq]at h0 h2;have q:G 83 [G 96 [N+24,0,0,0,0,0,0,2,0,0,0,0,0],(a:Int),1]=0:=bF .i64 (N+24) (a:Int) 1 [0,0,0,0,0,0,2,0,0,0,0,0] ⟨by omega,by clear h1 h2;omega⟩;exact absurd q h2
 refine aG bW (fun h3=>?_) (fun h3=>?_)
 rotate_left
 ·skip
  refine aM ?_
  unfold bK at h0;unfold bP at h1;unfold bR at h2;unfold bW at h3;exfalso;simp only[nn,aW,List.cons_append,List.nil_append,Bool.or_eq_true,aV,ne_eq]at h0 h3;have q:G 83 [G 96 [N+24,0,0,0,0,0,0,2,0,0,0,0,0],(a:Int),2]=0:=bF .i64 (N+24) (a:Int) 2 [0,0,0,0,0,0,2,0,0,0,0,0] ⟨by omega,by clear h1 h2 h3;omega⟩;exact absurd q h3
 refine aG cC (fun h4=>?_) (fun h4=>?_)
 rotate_left
 ·skip
  refine aM ?_
  unfold bK at h0;unfold bP at h1;unfold bR at h2;unfold bW at h3;unfold cC at h4;exfalso;simp only[nn,aW,List.cons_append,List.nil_append,Bool.or_eq_true,aV,ne_eq]at h0 h4;have q:G 83 [G 96 [N+24,0,0,0,0,0,0,2,0,0,0,0,0],(a:Int),3]=0:=bF .i64 (N+24) (a:Int) 3 [0,0,0,0,0,0,2,0,0,0,0,0] ⟨by omega,by clear h1 h2 h3 h4;omega⟩;exact absurd q h4
 refine aG cE (fun h5=>?_) (fun h5=>?_)
 rotate_left
 ·skip
  refine aM ?_
  unfold bK at h0;unfold bP at h1;unfold bR at h2;unfold bW at h3;unfold cC at h4;unfold cE at h5;exfalso;simp only[nn,aW,List.cons_append,List.nil_append,Bool.or_eq_true,aV,ne_eq]at h0 h5;have q:G 83 [G 96 [N+24,0,0,0,0,0,0,2,0,0,0,0,0],(a:Int),4]=0:=bF .i64 (N+24) (a:Int) 4 [0,0,0,0,0,0,2,0,0,0,0,0] ⟨by omega,by clear h1 h2 h3 h4 h5;omega⟩;exact absurd q h5
 refine aG cL (fun h6=>?_) (fun h6=>?_)
 rotate_left
 ·skip
  refine aM ?_
  unfold bK at h0;unfold bP at h1;unfold bR at h2;unfold bW at h3;unfold cC at h4;unfold cE at h5;unfold cL at h6;exfalso;simp only[nn,aW,List.cons_append,List.nil_append,Bool.or_eq_true,aV,ne_eq]at h0 h6;have q:G 83 [G 96 [N+24,0,0,0,0,0,0,2,0,0,0,0,0],(a:Int),5]=0:=bF .i64 (N+24) (a:Int) 5 [0,0,0,0,0,0,2,0,0,0,0,0] ⟨by omega,by clear h1 h2 h3 h4 h5 h6;omega⟩;exact absurd q h6
 refine aG cO (fun h7=>?_) (fun h7=>?_)
 rotate_left
 ·skip
  refine aM ?_
  unfold bK at h0;unfold bP at h1;unfold bR at h2;unfold bW at h3;unfold cC at h4;unfold cE at h5;unfold cL at h6;unfold cO at h7;exfalso;simp only[nn,aW,List.cons_append,List.nil_append,Bool.or_eq_true,aV,ne_eq]at h0 h7;have q:G 82 [G 96 [N+24,0,0,0,0,0,0,2,0,0,0,0,0],(a:Int),6]=2:=bF .i32 (N+24) (a:Int) 6 [0,0,0,0,0,0,2,0,0,0,0,0] ⟨by omega,by clear h1 h2 h3 h4 h5 h6 h7;omega⟩;exact absurd q h7
 refine aG cU (fun h8=>?_) (fun h8=>?_)
 rotate_left
 ·skip
  refine aM ?_
  unfold bK at h0;unfold bP at h1;unfold bR at h2;unfold bW at h3;unfold cC at h4;unfold cE at h5;unfold cL at h6;unfold cO at h7;unfold cU at h8;exfalso;simp only[nn,aW,List.cons_append,List.nil_append,Bool.or_eq_true,aV,ne_eq]at h0 h8;have q:G 82 [G 96 [N+24,0,0,0,0,0,0,2,0,0,0,0,0],(a:Int),7]=0:=bF .i32 (N+24) (a:Int) 7 [0,0,0,0,0,0,2,0,0,0,0,0] ⟨by omega,by clear h1 h2 h3 h4 h5 h6 h7 h8;omega⟩;exact absurd q h8
 refine aG dA (fun h9=>?_) (fun h9=>?_)
 rotate_left
 ·skip
  refine aM ?_
  unfold bK at h0;unfold bP at h1;unfold bR at h2;unfold bW at h3;unfold cC at h4;unfold cE at h5;unfold cL at h6;unfold cO at h7;unfold cU at h8;unfold dA at h9;exfalso;simp only[nn,aW,List.cons_append,List.nil_append,Bool.or_eq_true,aV,ne_eq]at h0 h9;have q:G 82 [G 96 [N+24,0,0,0,0,0,0,2,0,0,0,0,0],(a:Int),8]=0:=bF .i32 (N+24) (a:Int) 8 [0,0,0,0,0,0,2,0,0,0,0,0] ⟨by omega,by clear h1 h2 h3 h4 h5 h6 h7 h8 h9;omega⟩;exact absurd q h9
 refine aG cT (fun h10=>?_) (fun h10=>?_)
 rotate_left
 ·skip
  refine aM ?_
  unfold bK at h0;unfold bP at h1;unfold bR at h2;unfold bW at h3;unfold cC at h4;unfold cE at h5;unfold cL at h6;unfold cO at h7;unfold cU at h8;unfold dA at h9;unfold cT at h10;exfalso;simp only[nn,aW,List.cons_append,List.nil_append,Bool.or_eq_true,aV,ne_eq]at h0 h10;have q:G 82 [G 96 [N+24,0,0,0,0,0,0,2,0,0,0,0,0],(a:Int),9]=0:=bF .i32 (N+24) (a:Int) 9 [0,0,0,0,0,0,2,0,0,0,0,0] ⟨by omega,by clear h1 h2 h3 h4 h5 h6 h7 h8 h9 h10;omega⟩;exact absurd q h10
 refine aG cX (fun h11=>?_) (fun h11=>?_)
 rotate_left
 ·skip
  refine aM ?_
  unfold bK at h0;unfold bP at h1;unfold bR at h2;unfold bW at h3;unfold cC at h4;unfold cE at h5;unfold cL at h6;unfold cO at h7;unfold cU at h8;unfold dA at h9;unfold cT at h10;unfold cX at h11;exfalso;simp only[nn,aW,List.cons_append,List.nil_append,Bool.or_eq_true,aV,ne_eq]at h0 h11;have q:G 82 [G 96 [N+24,0,0,0,0,0,0,2,0,0,0,0,0],(a:Int),10]=0:=bF .i32 (N+24) (a:Int) 10 [0,0,0,0,0,0,2,0,0,0,0,0] ⟨by omega,by clear h1 h2 h3 h4 h5 h6 h7 h8 h9 h10 h11;omega⟩;exact absurd q h11
 refine aG dH (fun h12=>?_) (fun h12=>?_)
 rotate_left
 ·skip
  refine aM ?_
  unfold bK at h0;unfold bP at h1;unfold bR at h2;unfold bW at h3;unfold cC at h4;unfold cE at h5;unfold cL at h6;unfold cO at h7;unfold cU at h8;unfold dA at h9;unfold cT at h10;unfold cX at h11;unfold dH at h12;exfalso;simp only[nn,aW,List.cons_append,List.nil_append,Bool.or_eq_true,aV,ne_eq]at h0 h12;have q:G 82 [G 96 [N+24,0,0,0,0,0,0,2,0,0,0,0,0],(a:Int),11]=0:=bF .i32 (N+24) (a:Int) 11 [0,0,0,0,0,0,2,0,0,0,0,0] ⟨by omega,by clear h1 h2 h3 h4 h5 h6 h7 h8 h9 h10 h11 h12;omega⟩;exact absurd q h12
 refine aG dF (fun h13=>?_) (fun h13=>?_)
 rotate_left
 ·skip
  refine aH aEd ?_
  unfold bK at h0;unfold bP at h1;unfold bR at h2;unfold bW at h3;unfold cC at h4;unfold cE at h5;unfold cL at h6;unfold cO at h7;unfold cU at h8;unfold dA at h9;unfold cT at h10;unfold cX at h11;unfold dH at h12;unfold dF at h13;simp only[nn,aW,List.cons_append,List.nil_append,Bool.or_eq_true,aV,ne_eq]at h0;have hm:(N+24).toNat-(a+1)<(N+24).toNat-a:=(by clear h1 h2 h3 h4 h5 h6 h7 h8 h9 h10 h11 h12 h13;omega);have hg:((a+1:Nat):Int)≤N+24:=(by clear h1 h2 h3 h4 h5 h6 h7 h8 h9 h10 h11 h12 h13;omega);clear h0 h1 h2 h3 h4 h5 h6 h7 h8 h9 h10 h11 h12 h13;simp only[aZ];refine⟨a+1,hg,hm,cP (by simp),?_⟩;simp only[aU];clear hm hg;simp only[nn,Int.natCast_add,Int.cast_ofNat_Int,Int.natCast_one,aW,List.cons_append,List.nil_append,Bool.or_eq_true,aV,ne_eq];try ((repeat' refine And.intro ?_ ?_)<;>first|with_reducible rfl|with_reducible trivial)
 refine aG dV (fun h14=>?_) (fun h14=>?_)
 rotate_left
 ·skip
  refine aM ?_
  unfold bK at h0;unfold bP at h1;unfold bR at h2;unfold bW at h3;unfold cC at h4;unfold cE at h5;unfold cL at h6;unfold cO at h7;unfold cU at h8;unfold dA at h9;unfold cT at h10;unfold cX at h11;unfold dH at h12;unfold dF at h13;unfold dV at h14;exfalso;simp only[nn,aW,List.cons_append,List.nil_append,Bool.or_eq_true,aV,ne_eq]at h0 h13 h14;have q:G 83 [G 96 [N,0,0,0,0,0,0,2,0,0,0,0,0],(a:Int),0]=0:=bF .i64 (N) (a:Int) 0 [0,0,0,0,0,0,2,0,0,0,0,0] ⟨by omega,by clear h1 h2 h3 h4 h5 h6 h7 h8 h9 h10 h11 h12 h14;omega⟩;exact absurd q h14
 refine aG eC (fun h15=>?_) (fun h15=>?_)
 rotate_left
 ·skip
  refine aM ?_
  unfold bK at h0;unfold bP at h1;unfold bR at h2;unfold bW at h3;unfold cC at h4;unfold cE at h5;unfold cL at h6;unfold cO at h7;unfold cU at h8;unfold dA at h9;unfold cT at h10;unfold cX at h11;unfold dH at h12;unfold dF at h13;unfold dV at h14;unfold eC at h15;exfalso;simp only[nn,aW,List.cons_append,List.nil_append,Bool.or_eq_true,aV,ne_eq]at h0 h13 h15;have q:G 83 [G 96 [N,0,0,0,0,0,0,2,0,0,0,0,0],(a:Int),1]=0:=bF .i64 (N) (a:Int) 1 [0,0,0,0,0,0,2,0,0,0,0,0] ⟨by omega,by clear h1 h2 h3 h4 h5 h6 h7 h8 h9 h10 h11 h12 h14 h15;omega⟩;exact absurd q h15
 refine aG eP (fun h16=>?_) (fun h16=>?_)
 rotate_left
 ·skip
  refine aM ?_
  unfold bK at h0;unfold bP at h1;unfold bR at h2;unfold bW at h3;unfold cC at h4;unfold cE at h5;unfold cL at h6;unfold cO at h7;unfold cU at h8;unfold dA at h9;unfold cT at h10;unfold cX at h11;unfold dH at h12;unfold dF at h13;unfold dV at h14;unfold eC at h15;unfold eP at h16;exfalso;simp only[nn,aW,List.cons_append,List.nil_append,Bool.or_eq_true,aV,ne_eq]at h0 h13 h16;have q:G 83 [G 96 [N,0,0,0,0,0,0,2,0,0,0,0,0],(a:Int),2]=0:=bF .i64 (N) (a:Int) 2 [0,0,0,0,0,0,2,0,0,0,0,0] ⟨by omega,by clear h1 h2 h3 h4 h5 h6 h7 h8 h9 h10 h11 h12 h14 h15 h16;omega⟩;exact absurd q h16
 refine aG eY (fun h17=>?_) (fun h17=>?_)
 rotate_left
 ·skip
  refine aM ?_
  unfold bK at h0;unfold bP at h1;unfold bR at h2;unfold bW at h3;unfold cC at h4;unfold cE at h5;unfold cL at h6;unfold cO at h7;unfold cU at h8;unfold dA at h9;unfold cT at h10;unfold cX at h11;unfold dH at h12;unfold dF at h13;unfold dV at h14;unfold eC at h15;unfold eP at h16;unfold eY at h17;exfalso;simp only[nn,aW,List.cons_append,List.nil_append,Bool.or_eq_true,aV,ne_eq]at h0 h13 h17;have q:G 83 [G 96 [N,0,0,0,0,0,0,2,0,0,0,0,0],(a:Int),3]=0:=bF .i64 (N) (a:Int) 3 [0,0,0,0,0,0,2,0,0,0,0,0] ⟨by omega,by clear h1 h2 h3 h4 h5 h6 h7 h8 h9 h10 h11 h12 h14 h15 h16 h17;omega⟩;exact absurd q h17
 refine aG fK (fun h18=>?_) (fun h18=>?_)
 rotate_left
 ·skip
  refine aM ?_
  unfold bK at h0;unfold bP at h1;unfold bR at h2;unfold bW at h3;unfold cC at h4;unfold cE at h5;unfold cL at h6;unfold cO at h7;unfold cU at h8;unfold dA at h9;unfold cT at h10;unfold cX at h11;unfold dH at h12;unfold dF at h13;unfold dV at h14;unfold eC at h15;unfold eP at h16;unfold eY at h17;unfold fK at h18;exfalso;simp only[nn,aW,List.cons_append,List.nil_append,Bool.or_eq_true,aV,ne_eq]at h0 h13 h18;have q:G 83 [G 96 [N,0,0,0,0,0,0,2,0,0,0,0,0],(a:Int),4]=0:=bF .i64 (N) (a:Int) 4 [0,0,0,0,0,0,2,0,0,0,0,0] ⟨by omega,by clear h1 h2 h3 h4 h5 h6 h7 h8 h9 h10 h11 h12 h14 h15 h16 h17 h18;omega⟩;exact absurd q h18
 refine aG fU (fun h19=>?_) (fun h19=>?_)
 rotate_left
 ·skip
  refine aM ?_
  unfold bK at h0;unfold bP at h1;unfold bR at h2;unfold bW at h3;unfold cC at h4;unfold cE at h5;unfold cL at h6;unfold cO at h7;unfold cU at h8;unfold dA at h9;unfold cT at h10;unfold cX at h11;unfold dH at h12;unfold dF at h13;unfold dV at h14;unfold eC at h15;unfold eP at h16;unfold eY at h17;unfold fK at h18;unfold fU at h19;exfalso;simp only[nn,aW,List.cons_append,List.nil_append,Bool.or_eq_true,aV,ne_eq]at h0 h13 h19;have q:G 83 [G 96 [N,0,0,0,0,0,0,2,0,0,0,0,0],(a:Int),5]=0:=bF .i64 (N) (a:Int) 5 [0,0,0,0,0,0,2,0,0,0,0,0] ⟨by omega,by clear h1 h2 h3 h4 h5 h6 h7 h8 h9 h10 h11 h12 h14 h15 h16 h17 h18 h19;omega⟩;exact absurd q h19
 refine aG gH (fun h20=>?_) (fun h20=>?_)
 rotate_left
 ·skip
  refine aM ?_
  unfold bK at h0;unfold bP at h1;unfold bR at h2;unfold bW at h3;unfold cC at h4;unfold cE at h5;unfold cL at h6;unfold cO at h7;unfold cU at h8;unfold dA at h9;unfold cT at h10;unfold cX at h11;unfold dH at h12;unfold dF at h13;unfold dV at h14;unfold eC at h15;unfold eP at h16;unfold eY at h17;unfold fK at h18;unfold fU at h19;unfold gH at h20;exfalso;simp only[nn,aW,List.cons_append,List.nil_append,Bool.or_eq_true,aV,ne_eq]at h0 h13 h20;have q:G 82 [G 96 [N,0,0,0,0,0,0,2,0,0,0,0,0],(a:Int),6]=2:=bF .i32 (N) (a:Int) 6 [0,0,0,0,0,0,2,0,0,0,0,0] ⟨by omega,by clear h1 h2 h3 h4 h5 h6 h7 h8 h9 h10 h11 h12 h14 h15 h16 h17 h18 h19 h20;omega⟩;exact absurd q h20
 refine aG iH (fun h21=>?_) (fun h21=>?_)
 rotate_left
 ·skip
  refine aM ?_
  unfold bK at h0;unfold bP at h1;unfold bR at h2;unfold bW at h3;unfold cC at h4;unfold cE at h5;unfold cL at h6;unfold cO at h7;unfold cU at h8;unfold dA at h9;unfold cT at h10;unfold cX at h11;unfold dH at h12;unfold dF at h13;unfold dV at h14;unfold eC at h15;unfold eP at h16;unfold eY at h17;unfold fK at h18;unfold fU at h19;unfold gH at h20;unfold iH at h21;exfalso;simp only[nn,aW,List.cons_append,List.nil_append,Bool.or_eq_true,aV,ne_eq]at h0 h13 h21;have q:G 82 [G 96 [N,0,0,0,0,0,0,2,0,0,0,0,0],(a:Int),7]=0:=bF .i32 (N) (a:Int) 7 [0,0,0,0,0,0,2,0,0,0,0,0] ⟨by omega,by clear h1 h2 h3 h4 h5 h6 h7 h8 h9 h10 h11 h12 h14 h15 h16 h17 h18 h19 h20 h21;omega⟩;exact absurd q h21
 refine aG iU (fun h22=>?_) (fun h22=>?_)
 rotate_left
 ·skip
  refine aM ?_
  unfold bK at h0;unfold bP at h1;unfold bR at h2;unfold bW at h3;unfold cC at h4;unfold cE at h5;unfold cL at h6;unfold cO at h7;unfold cU at h8;unfold dA at h9;unfold cT at h10;unfold cX at h11;unfold dH at h12;unfold dF at h13;unfold dV at h14;unfold eC at h15;unfold eP at h16;unfold eY at h17;unfold fK at h18;unfold fU at h19;unfold gH at h20;unfold iH at h21;unfold iU at h22;exfalso;simp only[nn,aW,List.cons_append,List.nil_append,Bool.or_eq_true,aV,ne_eq]at h0 h13 h22;have q:G 82 [G 96 [N,0,0,0,0,0,0,2,0,0,0,0,0],(a:Int),8]=0:=bF .i32 (N) (a:Int) 8 [0,0,0,0,0,0,2,0,0,0,0,0] ⟨by omega,by clear h1 h2 h3 h4 h5 h6 h7 h8 h9 h10 h11 h12 h14 h15 h16 h17 h18 h19 h20 h21 h22;omega⟩;exact absurd q h22
 refine aG kB (fun h23=>?_) (fun h23=>?_)
 rotate_left
 ·skip
  refine aM ?_
  unfold bK at h0;unfold bP at h1;unfold bR at h2;unfold bW at h3;unfold cC at h4;unfold cE at h5;unfold cL at h6;unfold cO at h7;unfold cU at h8;unfold dA at h9;unfold cT at h10;unfold cX at h11;unfold dH at h12;unfold dF at h13;unfold dV at h14;unfold eC at h15;unfold eP at h16;unfold eY at h17;unfold fK at h18;unfold fU at h19;unfold gH at h20;unfold iH at h21;unfold iU at h22;unfold kB at h23;exfalso;simp only[nn,aW,List.cons_append,List.nil_append,Bool.or_eq_true,aV,ne_eq]at h0 h13 h23;have q:G 82 [G 96 [N,0,0,0,0,0,0,2,0,0,0,0,0],(a:Int),9]=0:=bF .i32 (N) (a:Int) 9 [0,0,0,0,0,0,2,0,0,0,0,0] ⟨by omega,by clear h1 h2 h3 h4 h5 h6 h7 h8 h9 h10 h11 h12 h14 h15 h16 h17 h18 h19 h20 h21 h22 h23;omega⟩;exact absurd q h23
 refine aG lH (fun h24=>?_) (fun h24=>?_)
 rotate_left
 ·skip
  refine aM ?_
  unfold bK at h0;unfold bP at h1;unfold bR at h2;unfold bW at h3;unfold cC at h4;unfold cE at h5;unfold cL at h6;unfold cO at h7;unfold cU at h8;unfold dA at h9;unfold cT at h10;unfold cX at h11;unfold dH at h12;unfold dF at h13;unfold dV at h14;unfold eC at h15;unfold eP at h16;unfold eY at h17;unfold fK at h18;unfold fU at h19;unfold gH at h20;unfold iH at h21;unfold iU at h22;unfold kB at h23;unfold lH at h24;exfalso;simp only[nn,aW,List.cons_append,List.nil_append,Bool.or_eq_true,aV,ne_eq]at h0 h13 h24;have q:G 82 [G 96 [N,0,0,0,0,0,0,2,0,0,0,0,0],(a:Int),10]=0:=bF .i32 (N) (a:Int) 10 [0,0,0,0,0,0,2,0,0,0,0,0] ⟨by omega,by clear h1 h2 h3 h4 h5 h6 h7 h8 h9 h10 h11 h12 h14 h15 h16 h17 h18 h19 h20 h21 h22 h23 h24;omega⟩;exact absurd q h24
 refine aG mX (fun h25=>?_) (fun h25=>?_)
 ·skip
  refine aH aDl ?_
  unfold bK at h0;unfold bP at h1;unfold bR at h2;unfold bW at h3;unfold cC at h4;unfold cE at h5;unfold cL at h6;unfold cO at h7;unfold cU at h8;unfold dA at h9;unfold cT at h10;unfold cX at h11;unfold dH at h12;unfold dF at h13;unfold dV at h14;unfold eC at h15;unfold eP at h16;unfold eY at h17;unfold fK at h18;unfold fU at h19;unfold gH at h20;unfold iH at h21;unfold iU at h22;unfold kB at h23;unfold lH at h24;unfold mX at h25;simp only[nn,aW,List.cons_append,List.nil_append,Bool.or_eq_true,aV,ne_eq]at h0;have hm:(N+24).toNat-(a+1)<(N+24).toNat-a:=(by clear h1 h2 h3 h4 h5 h6 h7 h8 h9 h10 h11 h12 h13 h14 h15 h16 h17 h18 h19 h20 h21 h22 h23 h24 h25;omega);have hg:((a+1:Nat):Int)≤N+24:=(by clear h1 h2 h3 h4 h5 h6 h7 h8 h9 h10 h11 h12 h13 h14 h15 h16 h17 h18 h19 h20 h21 h22 h23 h24 h25;omega);clear h0 h1 h2 h3 h4 h5 h6 h7 h8 h9 h10 h11 h12 h13 h14 h15 h16 h17 h18 h19 h20 h21 h22 h23 h24 h25;simp only[aZ];refine⟨a+1,hg,hm,cP (by simp),?_⟩;simp only[aU];clear hm hg;simp only[nn,Int.natCast_add,Int.cast_ofNat_Int,Int.natCast_one,aW,List.cons_append,List.nil_append,Bool.or_eq_true,aV,ne_eq];try ((repeat' refine And.intro ?_ ?_)<;>first|with_reducible rfl|with_reducible trivial)
 refine aM ?_
 unfold bK at h0;unfold bP at h1;unfold bR at h2;unfold bW at h3;unfold cC at h4;unfold cE at h5;unfold cL at h6;unfold cO at h7;unfold cU at h8;unfold dA at h9;unfold cT at h10;unfold cX at h11;unfold dH at h12;unfold dF at h13;unfold dV at h14;unfold eC at h15;unfold eP at h16;unfold eY at h17;unfold fK at h18;unfold fU at h19;unfold gH at h20;unfold iH at h21;unfold iU at h22;unfold kB at h23;unfold lH at h24;unfold mX at h25;exfalso;simp only[nn,aW,List.cons_append,List.nil_append,Bool.or_eq_true,aV,ne_eq]at h0 h13 h25;have q:G 82 [G 96 [N,0,0,0,0,0,0,2,0,0,0,0,0],(a:Int),11]=0:=bF .i32 (N) (a:Int) 11 [0,0,0,0,0,0,2,0,0,0,0,0] ⟨by omega,by clear h1 h2 h3 h4 h5 h6 h7 h8 h9 h10 h11 h12 h14 h15 h16 h17 h18 h19 h20 h21 h22 h23 h24 h25;omega⟩;exact absurd q h25
set_option maxRecDepth 100000 in
theorem aLg (N:Int) (b0:1≤N∧N≤10000):dY Try.prog G (bX GB) (bC (aY Try.prog 85) 1) aDB (dJ [N]):=by
 intro _ _
 have e:fM G (dJ [N]) aDB.es=aW N 0:=by
  rw[cR]
  rfl
 rw[e]
 exact⟨(N+24).toNat+1,bU (ι:=Nat) (ρ:=aW N) (ρT:=dJ [N]) (m:=fun a=>(N+24).toNat-a) (Good:=fun a=>(a:Int)≤N+24) (run:=rW Try.prog) (fun _=>rfl) fits rfl eE (fun a ha=>aBM N b0 a ha) (fun _ _ X hX hG=>bO hX hG) (fun _ _ X hX hG=>cJ) (fun a ha=>aMK N b0 a ha) (by decide) _ 0 (by show ((0:Nat):Int)≤N+24;omega) (by show (N+24).toNat-0<_;omega)⟩
set_option maxHeartbeats 1000000 in
set_option maxRecDepth 100000 in
theorem aOO (N:Int) (b0:1≤N∧N≤10000):gZ Try.prog G GB 85 aIe (dJ [N]):=by
 refine eA (lp:=aK3) (run:=aG2 Try.prog) (fun _=>rfl) fits (cM ⟨b0,trivial⟩) eE (fun X hX hG=>bO hX hG) (fun X hX hG fn c hf hc=>?_) rfl ?_
 ·refine eN ((congrArg bD (eV hf hc)).symm.trans aBy) ?_
  intro b hb
  simp only[List.mem_cons,List.mem_nil_iff,or_false]at hb
  rcases hb with rfl|rfl
  ·exact fT (j:=2) (by kernel_rfl) (by decide) gR
  ·refine gD hX hG (by kernel_rfl) ?_
   intro p hp'
   simp only[List.mem_cons,List.mem_nil_iff,or_false]at hp'
   rcases hp' with rfl|rfl
   ·exact aLL N b0
   ·exact aLg N b0
 ·skip
  refine aH aHD ?_
  exact⟨rfl,trivial⟩
def aAN:Ctx→List SV→aL→Res (SV × aL):=fL GB aDS 0 (.lit true) aIe
theorem aSi {X:Ctx} {ρ:Nat→Int} (hX:X.Ok ρ) (hG:X.G=G):gY Try.prog X ρ GB 85 aAN:=by
 obtain⟨XG,XI,XV,XF⟩:=X
 simp only at hG
 subst hG
 refine dS hX ?_
 intro xs ls hw hl hp
 unfold aDS at hw
 obtain⟨x0,y0,e0,b0,h0⟩:=pX hw
 have e1:=nD h0
 subst e1 e0
 have hl':ls=[]:=List.length_eq_zero_iff.1 hl
 subst hl'
 exact by rw[List.append_nil];exact aOO x0 b0
def cA (a:Nat):Nat→Int:=dJ (([]:List Int)++[(a:Int)])
theorem aBV (a:Nat) (ha:(a:Int)≤24):∀ i q,sU[i]?=some q→q.1≤cA a i∧cA a i≤q.2:=by
 unfold cA sU
 exact cM (xs:=[(a:Int)]) (by exact⟨by omega,trivial⟩)
set_option maxHeartbeats 4000000 in
set_option maxRecDepth 100000 in
theorem aLO (a:Nat) (ha:(a:Int)≤24):Sx.sC (rL Try.prog) G (cA a) (aZ G (cA) (dJ ([]:List Int)) 0 (.lit true) (fun a=>(a:Int)≤24) (fun a=>(24:Int).toNat-a) a) []:=by
 refine aG dR (fun h0=>?_) (fun h0=>?_)
 rotate_left
 ·skip
  refine aH aDF ?_
  unfold dR at h0;simp only[aZ];exact⟨rfl,gA (by simp),by simp only[aU]⟩
 refine aG eH (fun h1=>?_) (fun h1=>?_)
 rotate_left
 ·skip
  refine aM ?_
  unfold dR at h0;unfold eH at h1;exfalso;simp only[nn,cA,List.cons_append,List.nil_append,Bool.or_eq_true,aV,ne_eq]at h0 h1;have q:G 83 [G 96 [24,0,0,0,0,0,0,1,0,0,0,0,0],(a:Int),0]=0:=bF .i64 (24) (a:Int) 0 [0,0,0,0,0,0,1,0,0,0,0,0] ⟨by omega,by clear h1;omega⟩;exact absurd q h1
 refine aG eS (fun h2=>?_) (fun h2=>?_)
 rotate_left
 ·skip
  refine aM ?_
  unfold dR at h0;unfold eH at h1;unfold eS at h2;exfalso;simp only[nn,cA,List.cons_append,List.nil_append,Bool.or_eq_true,aV,ne_eq]at h0 h2;have q:G 83 [G 96 [24,0,0,0,0,0,0,1,0,0,0,0,0],(a:Int),1]=0:=bF .i64 (24) (a:Int) 1 [0,0,0,0,0,0,1,0,0,0,0,0] ⟨by omega,by clear h1 h2;omega⟩;exact absurd q h2
 refine aG fA (fun h3=>?_) (fun h3=>?_)
 rotate_left
 ·skip
  refine aM ?_
  unfold dR at h0;unfold eH at h1;unfold eS at h2;unfold fA at h3;exfalso;simp only[nn,cA,List.cons_append,List.nil_append,Bool.or_eq_true,aV,ne_eq]at h0 h3;have q:G 83 [G 96 [24,0,0,0,0,0,0,1,0,0,0,0,0],(a:Int),2]=0:=bF .i64 (24) (a:Int) 2 [0,0,0,0,0,0,1,0,0,0,0,0] ⟨by omega,by clear h1 h2 h3;omega⟩;exact absurd q h3
 refine aG fN (fun h4=>?_) (fun h4=>?_)
 rotate_left
 ·skip
  refine aM ?_
  unfold dR at h0;unfold eH at h1;unfold eS at h2;unfold fA at h3;unfold fN at h4;exfalso;simp only[nn,cA,List.cons_append,List.nil_append,Bool.or_eq_true,aV,ne_eq]at h0 h4;have q:G 83 [G 96 [24,0,0,0,0,0,0,1,0,0,0,0,0],(a:Int),3]=0:=bF .i64 (24) (a:Int) 3 [0,0,0,0,0,0,1,0,0,0,0,0] ⟨by omega,by clear h1 h2 h3 h4;omega⟩;exact absurd q h4
 refine aG fY (fun h5=>?_) (fun h5=>?_)
 rotate_left
 ·skip
  refine aM ?_
  unfold dR at h0;unfold eH at h1;unfold eS at h2;unfold fA at h3;unfold fN at h4;unfold fY at h5;exfalso;simp only[nn,cA,List.cons_append,List.nil_append,Bool.or_eq_true,aV,ne_eq]at h0 h5;have q:G 83 [G 96 [24,0,0,0,0,0,0,1,0,0,0,0,0],(a:Int),4]=0:=bF .i64 (24) (a:Int) 4 [0,0,0,0,0,0,1,0,0,0,0,0] ⟨by omega,by clear h1 h2 h3 h4 h5;omega⟩;exact absurd q h5
 refine aG gO (fun h6=>?_) (fun h6=>?_)
 rotate_left
 ·skip
  refine aM ?_
  unfold dR at h0;unfold eH at h1;unfold eS at h2;unfold fA at h3;unfold fN at h4;unfold fY at h5;unfold gO at h6;exfalso;simp only[nn,cA,List.cons_append,List.nil_append,Bool.or_eq_true,aV,ne_eq]at h0 h6;have q:G 83 [G 96 [24,0,0,0,0,0,0,1,0,0,0,0,0],(a:Int),5]=0:=bF .i64 (24) (a:Int) 5 [0,0,0,0,0,0,1,0,0,0,0,0] ⟨by omega,by clear h1 h2 h3 h4 h5 h6;omega⟩;exact absurd q h6
 refine aG iJ (fun h7=>?_) (fun h7=>?_)
 rotate_left
 ·skip
  refine aM ?_
  unfold dR at h0;unfold eH at h1;unfold eS at h2;unfold fA at h3;unfold fN at h4;unfold fY at h5;unfold gO at h6;unfold iJ at h7;exfalso;simp only[nn,cA,List.cons_append,List.nil_append,Bool.or_eq_true,aV,ne_eq]at h0 h7;have q:G 82 [G 96 [24,0,0,0,0,0,0,1,0,0,0,0,0],(a:Int),6]=1:=bF .i32 (24) (a:Int) 6 [0,0,0,0,0,0,1,0,0,0,0,0] ⟨by omega,by clear h1 h2 h3 h4 h5 h6 h7;omega⟩;exact absurd q h7
 refine aG iQ (fun h8=>?_) (fun h8=>?_)
 rotate_left
 ·skip
  refine aM ?_
  unfold dR at h0;unfold eH at h1;unfold eS at h2;unfold fA at h3;unfold fN at h4;unfold fY at h5;unfold gO at h6;unfold iJ at h7;unfold iQ at h8;exfalso;simp only[nn,cA,List.cons_append,List.nil_append,Bool.or_eq_true,aV,ne_eq]at h0 h8;have q:G 82 [G 96 [24,0,0,0,0,0,0,1,0,0,0,0,0],(a:Int),7]=0:=bF .i32 (24) (a:Int) 7 [0,0,0,0,0,0,1,0,0,0,0,0] ⟨by omega,by clear h1 h2 h3 h4 h5 h6 h7 h8;omega⟩;exact absurd q h8
 refine aG jJ (fun h9=>?_) (fun h9=>?_)
 rotate_left
 ·skip
  refine aM ?_
  unfold dR at h0;unfold eH at h1;unfold eS at h2;unfold fA at h3;unfold fN at h4;unfold fY at h5;unfold gO at h6;unfold iJ at h7;unfold iQ at h8;unfold jJ at h9;exfalso;simp only[nn,cA,List.cons_append,List.nil_append,Bool.or_eq_true,aV,ne_eq]at h0 h9;have q:G 82 [G 96 [24,0,0,0,0,0,0,1,0,0,0,0,0],(a:Int),8]=0:=bF .i32 (24) (a:Int) 8 [0,0,0,0,0,0,1,0,0,0,0,0] ⟨by omega,by clear h1 h2 h3 h4 h5 h6 h7 h8 h9;omega⟩;exact absurd q h9
 refine aG jZ (fun h10=>?_) (fun h10=>?_)
 rotate_left
 ·skip
  refine aM ?_
  unfold dR at h0;unfold eH at h1;unfold eS at h2;unfold fA at h3;unfold fN at h4;unfold fY at h5;unfold gO at h6;unfold iJ at h7;unfold iQ at h8;unfold jJ at h9;unfold jZ at h10;exfalso;simp only[nn,cA,List.cons_append,List.nil_append,Bool.or_eq_true,aV,ne_eq]at h0 h10;have q:G 82 [G 96 [24,0,0,0,0,0,0,1,0,0,0,0,0],(a:Int),9]=0:=bF .i32 (24) (a:Int) 9 [0,0,0,0,0,0,1,0,0,0,0,0] ⟨by omega,by clear h1 h2 h3 h4 h5 h6 h7 h8 h9 h10;omega⟩;exact absurd q h10
 refine aG lD (fun h11=>?_) (fun h11=>?_)
 rotate_left
 ·skip
  refine aM ?_
  unfold dR at h0;unfold eH at h1;unfold eS at h2;unfold fA at h3;unfold fN at h4;unfold fY at h5;unfold gO at h6;unfold iJ at h7;unfold iQ at h8;unfold jJ at h9;unfold jZ at h10;unfold lD at h11;exfalso;simp only[nn,cA,List.cons_append,List.nil_append,Bool.or_eq_true,aV,ne_eq]at h0 h11;have q:G 82 [G 96 [24,0,0,0,0,0,0,1,0,0,0,0,0],(a:Int),10]=0:=bF .i32 (24) (a:Int) 10 [0,0,0,0,0,0,1,0,0,0,0,0] ⟨by omega,by clear h1 h2 h3 h4 h5 h6 h7 h8 h9 h10 h11;omega⟩;exact absurd q h11
 refine aG mW (fun h12=>?_) (fun h12=>?_)
 ·skip
  refine aH aCt ?_
  unfold dR at h0;unfold eH at h1;unfold eS at h2;unfold fA at h3;unfold fN at h4;unfold fY at h5;unfold gO at h6;unfold iJ at h7;unfold iQ at h8;unfold jJ at h9;unfold jZ at h10;unfold lD at h11;unfold mW at h12;simp only[nn,cA,List.cons_append,List.nil_append,Bool.or_eq_true,aV,ne_eq]at h0;have hm:(24:Int).toNat-(a+1)<(24:Int).toNat-a:=(by clear h1 h2 h3 h4 h5 h6 h7 h8 h9 h10 h11 h12;omega);have hg:((a+1:Nat):Int)≤24:=(by clear h1 h2 h3 h4 h5 h6 h7 h8 h9 h10 h11 h12;omega);clear h0 h1 h2 h3 h4 h5 h6 h7 h8 h9 h10 h11 h12;simp only[aZ];refine⟨a+1,hg,hm,cP (by simp),?_⟩;simp only[aU];clear hm hg;simp only[nn,Int.natCast_add,Int.cast_ofNat_Int,Int.natCast_one,cA,List.cons_append,List.nil_append,Bool.or_eq_true,aV,ne_eq];try ((repeat' refine And.intro ?_ ?_)<;>first|with_reducible rfl|with_reducible trivial)
 refine aM ?_
 unfold dR at h0;unfold eH at h1;unfold eS at h2;unfold fA at h3;unfold fN at h4;unfold fY at h5;unfold gO at h6;unfold iJ at h7;unfold iQ at h8;unfold jJ at h9;unfold jZ at h10;unfold lD at h11;unfold mW at h12;exfalso;simp only[nn,cA,List.cons_append,List.nil_append,Bool.or_eq_true,aV,ne_eq]at h0 h12;have q:G 82 [G 96 [24,0,0,0,0,0,0,1,0,0,0,0,0],(a:Int),11]=0:=bF .i32 (24) (a:Int) 11 [0,0,0,0,0,0,1,0,0,0,0,0] ⟨by omega,by clear h1 h2 h3 h4 h5 h6 h7 h8 h9 h10 h11 h12;omega⟩;exact absurd q h12
set_option maxRecDepth 100000 in
theorem aLA:dY Try.prog G (bX GB) (bC (aY Try.prog 85) 1) aCp (dJ ([]:List Int)):=by
 intro _ _
 have e:fM G (dJ ([]:List Int)) aCp.es=cA 0:=by
  rw[cR]
  rfl
 rw[e]
 exact⟨(24:Int).toNat+1,bU (ι:=Nat) (ρ:=cA) (ρT:=dJ ([]:List Int)) (m:=fun a=>(24:Int).toNat-a) (Good:=fun a=>(a:Int)≤24) (run:=rL Try.prog) (fun _=>rfl) fits rfl eE (fun a ha=>aBV a ha) (fun _ _ X hX hG=>bO hX hG) (fun _ _ X hX hG=>cJ) (fun a ha=>aLO a ha) (by decide) _ 0 (by show ((0:Nat):Int)≤24;omega) (by show (24:Int).toNat-0<_;omega)⟩
set_option maxHeartbeats 4000000 in
set_option maxRecDepth 100000 in
theorem aLE (a:Nat) (ha:(a:Int)≤24):Sx.sC (qU Try.prog) G (cA a) (aZ G (cA) (dJ ([]:List Int)) 0 (.lit true) (fun a=>(a:Int)≤24) (fun a=>(24:Int).toNat-a) a) []:=by
 refine aG dT (fun h0=>?_) (fun h0=>?_)
 rotate_left
 ·skip
  refine aH aCP ?_
  unfold dT at h0;simp only[aZ];exact⟨rfl,gA (by simp),by simp only[aU]⟩
 refine aG eI (fun h1=>?_) (fun h1=>?_)
 rotate_left
 ·skip
  refine aM ?_
  unfold dT at h0;unfold eI at h1;exfalso;simp only[nn,cA,List.cons_append,List.nil_append,Bool.or_eq_true,aV,ne_eq]at h0 h1;have q:G 83 [G 96 [24,0,0,0,0,0,0,2,0,0,0,0,0],(a:Int),0]=0:=bF .i64 (24) (a:Int) 0 [0,0,0,0,0,0,2,0,0,0,0,0] ⟨by omega,by clear h1;omega⟩;exact absurd q h1
 refine aG eT (fun h2=>?_) (fun h2=>?_)
 rotate_left
 ·skip
  refine aM ?_
  unfold dT at h0;unfold eI at h1;unfold eT at h2;exfalso;simp only[nn,cA,List.cons_append,List.nil_append,Bool.or_eq_true,aV,ne_eq]at h0 h2;have q:G 83 [G 96 [24,0,0,0,0,0,0,2,0,0,0,0,0],(a:Int),1]=0:=bF .i64 (24) (a:Int) 1 [0,0,0,0,0,0,2,0,0,0,0,0] ⟨by omega,by clear h1 h2;omega⟩;exact absurd q h2
 refine aG fD (fun h3=>?_) (fun h3=>?_)
 rotate_left
 ·skip
  refine aM ?_
  unfold dT at h0;unfold eI at h1;unfold eT at h2;unfold fD at h3;exfalso;simp only[nn,cA,List.cons_append,List.nil_append,Bool.or_eq_true,aV,ne_eq]at h0 h3;have q:G 83 [G 96 [24,0,0,0,0,0,0,2,0,0,0,0,0],(a:Int),2]=0:=bF .i64 (24) (a:Int) 2 [0,0,0,0,0,0,2,0,0,0,0,0] ⟨by omega,by clear h1 h2 h3;omega⟩;exact absurd q h3
 refine aG fR (fun h4=>?_) (fun h4=>?_)
 rotate_left
 ·skip
  refine aM ?_
  unfold dT at h0;unfold eI at h1;unfold eT at h2;unfold fD at h3;unfold fR at h4;exfalso;simp only[nn,cA,List.cons_append,List.nil_append,Bool.or_eq_true,aV,ne_eq]at h0 h4;have q:G 83 [G 96 [24,0,0,0,0,0,0,2,0,0,0,0,0],(a:Int),3]=0:=bF .i64 (24) (a:Int) 3 [0,0,0,0,0,0,2,0,0,0,0,0] ⟨by omega,by clear h1 h2 h3 h4;omega⟩;exact absurd q h4
 refine aG fZ (fun h5=>?_) (fun h5=>?_)
 rotate_left
 ·skip
  refine aM ?_
  unfold dT at h0;unfold eI at h1;unfold eT at h2;unfold fD at h3;unfold fR at h4;unfold fZ at h5;exfalso;simp only[nn,cA,List.cons_append,List.nil_append,Bool.or_eq_true,aV,ne_eq]at h0 h5;have q:G 83 [G 96 [24,0,0,0,0,0,0,2,0,0,0,0,0],(a:Int),4]=0:=bF .i64 (24) (a:Int) 4 [0,0,0,0,0,0,2,0,0,0,0,0] ⟨by omega,by clear h1 h2 h3 h4 h5;omega⟩;exact absurd q h5
 refine aG gL (fun h6=>?_) (fun h6=>?_)
 rotate_left
 ·skip
  refine aM ?_
  unfold dT at h0;unfold eI at h1;unfold eT at h2;unfold fD at h3;unfold fR at h4;unfold fZ at h5;unfold gL at h6;exfalso;simp only[nn,cA,List.cons_append,List.nil_append,Bool.or_eq_true,aV,ne_eq]at h0 h6;have q:G 83 [G 96 [24,0,0,0,0,0,0,2,0,0,0,0,0],(a:Int),5]=0:=bF .i64 (24) (a:Int) 5 [0,0,0,0,0,0,2,0,0,0,0,0] ⟨by omega,by clear h1 h2 h3 h4 h5 h6;omega⟩;exact absurd q h6
 refine aG iI (fun h7=>?_) (fun h7=>?_)
 rotate_left
 ·skip
  refine aM ?_
  unfold dT at h0;unfold eI at h1;unfold eT at h2;unfold fD at h3;unfold fR at h4;unfold fZ at h5;unfold gL at h6;unfold iI at h7;exfalso;simp only[nn,cA,List.cons_append,List.nil_append,Bool.or_eq_true,aV,ne_eq]at h0 h7;have q:G 82 [G 96 [24,0,0,0,0,0,0,2,0,0,0,0,0],(a:Int),6]=2:=bF .i32 (24) (a:Int) 6 [0,0,0,0,0,0,2,0,0,0,0,0] ⟨by omega,by clear h1 h2 h3 h4 h5 h6 h7;omega⟩;exact absurd q h7
 refine aG iO (fun h8=>?_) (fun h8=>?_)
 rotate_left
 ·skip
  refine aM ?_
  unfold dT at h0;unfold eI at h1;unfold eT at h2;unfold fD at h3;unfold fR at h4;unfold fZ at h5;unfold gL at h6;unfold iI at h7;unfold iO at h8;exfalso;simp only[nn,cA,List.cons_append,List.nil_append,Bool.or_eq_true,aV,ne_eq]at h0 h8;have q:G 82 [G 96 [24,0,0,0,0,0,0,2,0,0,0,0,0],(a:Int),7]=0:=bF .i32 (24) (a:Int) 7 [0,0,0,0,0,0,2,0,0,0,0,0] ⟨by omega,by clear h1 h2 h3 h4 h5 h6 h7 h8;omega⟩;exact absurd q h8
 refine aG jS (fun h9=>?_) (fun h9=>?_)
 rotate_left
 ·skip
  refine aM ?_
  unfold dT at h0;unfold eI at h1;unfold eT at h2;unfold fD at h3;unfold fR at h4;unfold fZ at h5;unfold gL at h6;unfold iI at h7;unfold iO at h8;unfold jS at h9;exfalso;simp only[nn,cA,List.cons_append,List.nil_append,Bool.or_eq_true,aV,ne_eq]at h0 h9;have q:G 82 [G 96 [24,0,0,0,0,0,0,2,0,0,0,0,0],(a:Int),8]=0:=bF .i32 (24) (a:Int) 8 [0,0,0,0,0,0,2,0,0,0,0,0] ⟨by omega,by clear h1 h2 h3 h4 h5 h6 h7 h8 h9;omega⟩;exact absurd q h9
 refine aG jX (fun h10=>?_) (fun h10=>?_)
 rotate_left
 ·skip
  refine aM ?_
  unfold dT at h0;unfold eI at h1;unfold eT at h2;unfold fD at h3;unfold fR at h4;unfold fZ at h5;unfold gL at h6;unfold iI at h7;unfold iO at h8;unfold jS at h9;unfold jX at h10;exfalso;simp only[nn,cA,List.cons_append,List.nil_append,Bool.or_eq_true,aV,ne_eq]at h0 h10;have q:G 82 [G 96 [24,0,0,0,0,0,0,2,0,0,0,0,0],(a:Int),9]=0:=bF .i32 (24) (a:Int) 9 [0,0,0,0,0,0,2,0,0,0,0,0] ⟨by omega,by clear h1 h2 h3 h4 h5 h6 h7 h8 h9 h10;omega⟩;exact absurd q h10
 refine aG kX (fun h11=>?_) (fun h11=>?_)
 rotate_left
 ·skip
  refine aM ?_
  unfold dT at h0;unfold eI at h1;unfold eT at h2;unfold fD at h3;unfold fR at h4;unfold fZ at h5;unfold gL at h6;unfold iI at h7;unfold iO at h8;unfold jS at h9;unfold jX at h10;unfold kX at h11;exfalso;simp only[nn,cA,List.cons_append,List.nil_append,Bool.or_eq_true,aV,ne_eq]at h0 h11;have q:G 82 [G 96 [24,0,0,0,0,0,0,2,0,0,0,0,0],(a:Int),10]=0:=bF .i32 (24) (a:Int) 10 [0,0,0,0,0,0,2,0,0,0,0,0] ⟨by omega,by clear h1 h2 h3 h4 h5 h6 h7 h8 h9 h10 h11;omega⟩;exact absurd q h11
 refine aG mU (fun h12=>?_) (fun h12=>?_)
 ·skip
  refine aH aDf ?_
  unfold dT at h0;unfold eI at h1;unfold eT at h2;unfold fD at h3;unfold fR at h4;unfold fZ at h5;unfold gL at h6;unfold iI at h7;unfold iO at h8;unfold jS at h9;unfold jX at h10;unfold kX at h11;unfold mU at h12;simp only[nn,cA,List.cons_append,List.nil_append,Bool.or_eq_true,aV,ne_eq]at h0;have hm:(24:Int).toNat-(a+1)<(24:Int).toNat-a:=(by clear h1 h2 h3 h4 h5 h6 h7 h8 h9 h10 h11 h12;omega);have hg:((a+1:Nat):Int)≤24:=(by clear h1 h2 h3 h4 h5 h6 h7 h8 h9 h10 h11 h12;omega);clear h0 h1 h2 h3 h4 h5 h6 h7 h8 h9 h10 h11 h12;simp only[aZ];refine⟨a+1,hg,hm,cP (by simp),?_⟩;simp only[aU];clear hm hg;simp only[nn,Int.natCast_add,Int.cast_ofNat_Int,Int.natCast_one,cA,List.cons_append,List.nil_append,Bool.or_eq_true,aV,ne_eq];try ((repeat' refine And.intro ?_ ?_)<;>first|with_reducible rfl|with_reducible trivial)
 refine aM ?_
 unfold dT at h0;unfold eI at h1;unfold eT at h2;unfold fD at h3;unfold fR at h4;unfold fZ at h5;unfold gL at h6;unfold iI at h7;unfold iO at h8;unfold jS at h9;unfold jX at h10;unfold kX at h11;unfold mU at h12;exfalso;simp only[nn,cA,List.cons_append,List.nil_append,Bool.or_eq_true,aV,ne_eq]at h0 h12;have q:G 82 [G 96 [24,0,0,0,0,0,0,2,0,0,0,0,0],(a:Int),11]=0:=bF .i32 (24) (a:Int) 11 [0,0,0,0,0,0,2,0,0,0,0,0] ⟨by omega,by clear h1 h2 h3 h4 h5 h6 h7 h8 h9 h10 h11 h12;omega⟩;exact absurd q h12
set_option maxRecDepth 100000 in
theorem aL2:dY Try.prog G (bX GB) (bC (aY Try.prog 85) 1) aDv (dJ ([]:List Int)):=by
 intro _ _
 have e:fM G (dJ ([]:List Int)) aDv.es=cA 0:=by
  rw[cR]
  rfl
 rw[e]
 exact⟨(24:Int).toNat+1,bU (ι:=Nat) (ρ:=cA) (ρT:=dJ ([]:List Int)) (m:=fun a=>(24:Int).toNat-a) (Good:=fun a=>(a:Int)≤24) (run:=qU Try.prog) (fun _=>rfl) fits rfl eE (fun a ha=>aBV a ha) (fun _ _ X hX hG=>bO hX hG) (fun _ _ X hX hG=>cJ) (fun a ha=>aLE a ha) (by decide) _ 0 (by show ((0:Nat):Int)≤24;omega) (by show (24:Int).toNat-0<_;omega)⟩
set_option maxHeartbeats 1000000 in
set_option maxRecDepth 100000 in
theorem aNv:gZ Try.prog G GB 85 aHH (dJ ([]:List Int)):=by
 refine eA (lp:=aKk) (run:=aFa Try.prog) (fun _=>rfl) fits (cM trivial) eE (fun X hX hG=>bO hX hG) (fun X hX hG fn c hf hc=>?_) rfl ?_
 ·refine eN ((congrArg bD (eV hf hc)).symm.trans aBy) ?_
  intro b hb
  simp only[List.mem_cons,List.mem_nil_iff,or_false]at hb
  rcases hb with rfl|rfl
  ·exact fT (j:=2) (by kernel_rfl) (by decide) gR
  ·refine gD hX hG (by kernel_rfl) ?_
   intro p hp'
   simp only[List.mem_cons,List.mem_nil_iff,or_false]at hp'
   rcases hp' with rfl|rfl
   ·exact aLA
   ·exact aL2
 ·skip
  refine aH aIL ?_
  exact⟨rfl,trivial⟩
def aAU:Ctx→List SV→aL→Res (SV × aL):=fL GB [] 0 (.lit true) aHH
theorem aTq {X:Ctx} {ρ:Nat→Int} (hX:X.Ok ρ) (hG:X.G=G):gY Try.prog X ρ GB 85 aAU:=by
 obtain⟨XG,XI,XV,XF⟩:=X
 simp only at hG
 subst hG
 refine dS hX ?_
 intro xs ls hw hl hp
 have e0:=nD hw
 subst e0
 have hl':ls=[]:=List.length_eq_zero_iff.1 hl
 subst hl'
 exact aNv
def aCb:=wY aAN aAU
theorem aVY {X:Ctx} {ρ:Nat→Int} (hX:X.Ok ρ) (hG:X.G=G):gY Try.prog X ρ GB 85 aCb:=sM (aSi hX hG) (aTq hX hG)
end Go.Proofs.Ytkpdiehbaiepaaa
