/- What is proved: the law FillsOrder,over all its ways: it is true. No condition but the numbers' own bounds. -/
import Derived.Test.YtoiecphddchknaaQNn
import Derived.Test.YtoiecphddchknaaQa12
import Derived.Test.YtoiecphddchknaaQg5
set_option linter.unusedSimpArgs false
set_option linter.unusedVariables false
namespace Go.Proofs.Ytoiecphddchknaa
open Go Go.RowKit Sx Wi
theorem aKG:bQ (eI Try.prog 7)=[fZ (eI Try.prog 7) 0,fZ (eI Try.prog 7) 1]:=by kernel_rfl
set_option maxRecDepth 100000 in
theorem aNf (x0 x1 x2 x3 x4 x5 x6 x7 x8 x9 x10 x11 x12 x13 x14 x15 x16 x17 x18 x19 x20 x21 x22 x23 x24 x25 x26 x27 x28 x29 x30 x31 x32 x33 x34 x35 x36 x37 x38 x39 x40 x41 x42 x43 x44 x45 x46 x47 x48 x49 L:Int):lA Try.prog G (bV GB) (fZ (eI Try.prog 7) 0) aIR (fF ([x0,x1,x2,x3,x4,x5,x6,x7,x8,x9,x10,x11,x12,x13,x14,x15,x16,x17,x18,x19,x20,x21,x22,x23,x24,x25,x26,x27,x28,x29,x30,x31,x32,x33,x34,x35,x36,x37,x38,x39,x40,x41,x42,x43,x44,x45,x46,x47,x48,x49]++[L])):=by
 intro hw _
 have hb:gT tT [x0,x1,x2,x3,x4,x5,x6,x7,x8,x9,x10,x11,x12,x13,x14,x15,x16,x17,x18,x19,x20,x21,x22,x23,x24,x25,x26,x27,x28,x29,x30,x31,x32,x33,x34,x35,x36,x37,x38,x39,x40,x41,x42,x43,x44,x45,x46,x47,x48,x49,0]:=hw
 unfold tT at hb
 obtain⟨b0,b1,b2,b3,b4,b5,b6,b7,b8,b9,b10,b11,b12,b13,b14,b15,b16,b17,b18,b19,b20,b21,b22,b23,b24,b25,b26,b27,b28,b29,b30,b31,b32,b33,b34,b35,b36,b37,b38,b39,b40,b41,b42,b43,b44,b45,b46,b47,b48,b49,_⟩:=hb
 have e:iX G (fF ([x0,x1,x2,x3,x4,x5,x6,x7,x8,x9,x10,x11,x12,x13,x14,x15,x16,x17,x18,x19,x20,x21,x22,x23,x24,x25,x26,x27,x28,x29,x30,x31,x32,x33,x34,x35,x36,x37,x38,x39,x40,x41,x42,x43,x44,x45,x46,x47,x48,x49]++[L])) aIR.es=iN x0 x1 x2 x3 x4 x5 x6 x7 x8 x9 x10 x11 x12 x13 x14 x15 x16 x17 x18 x19 x20 x21 x22 x23 x24 x25 x26 x27 x28 x29 x30 x31 x32 x33 x34 x35 x36 x37 x38 x39 x40 x41 x42 x43 x44 x45 x46 x47 x48 x49 L 0:=by
  rw[iH]
  rfl
 rw[e]
 exact⟨x0.toNat+1,iL (ι:=Nat) (ρ:=iN x0 x1 x2 x3 x4 x5 x6 x7 x8 x9 x10 x11 x12 x13 x14 x15 x16 x17 x18 x19 x20 x21 x22 x23 x24 x25 x26 x27 x28 x29 x30 x31 x32 x33 x34 x35 x36 x37 x38 x39 x40 x41 x42 x43 x44 x45 x46 x47 x48 x49 L) (ρT:=fF ([x0,x1,x2,x3,x4,x5,x6,x7,x8,x9,x10,x11,x12,x13,x14,x15,x16,x17,x18,x19,x20,x21,x22,x23,x24,x25,x26,x27,x28,x29,x30,x31,x32,x33,x34,x35,x36,x37,x38,x39,x40,x41,x42,x43,x44,x45,x46,x47,x48,x49]++[L])) (m:=fun i=>x0.toNat-i) (Good:=fun i=>(i:Int)≤x0) (run:=sK Try.prog) (fun _=>rfl) fits rfl iM (fun i hi=>aKB x0 x1 x2 x3 x4 x5 x6 x7 x8 x9 x10 x11 x12 x13 x14 x15 x16 x17 x18 x19 x20 x21 x22 x23 x24 x25 x26 x27 x28 x29 x30 x31 x32 x33 x34 x35 x36 x37 x38 x39 x40 x41 x42 x43 x44 x45 x46 x47 x48 x49 L b0 b1 b2 b3 b4 b5 b6 b7 b8 b9 b10 b11 b12 b13 b14 b15 b16 b17 b18 b19 b20 b21 b22 b23 b24 b25 b26 b27 b28 b29 b30 b31 b32 b33 b34 b35 b36 b37 b38 b39 b40 b41 b42 b43 b44 b45 b46 b47 b48 b49 i hi) (fun _ _ X hX hG=>xO hX hG) (fun _ _ X hX hG=>iB) (fun i hi=>aMr x0 x1 x2 x3 x4 x5 x6 x7 x8 x9 x10 x11 x12 x13 x14 x15 x16 x17 x18 x19 x20 x21 x22 x23 x24 x25 x26 x27 x28 x29 x30 x31 x32 x33 x34 x35 x36 x37 x38 x39 x40 x41 x42 x43 x44 x45 x46 x47 x48 x49 L b0.2 i hi) (by decide) (x0.toNat+1) 0 b0.1 (by show x0.toNat-0<x0.toNat+1;omega)⟩
set_option maxHeartbeats 1000000 in
set_option maxRecDepth 100000 in
theorem aM7 (x0 x1 x2 x3 x4 x5 x6 x7 x8 x9 x10 x11 x12 x13 x14 x15 x16 x17 x18 x19 x20 x21 x22 x23 x24 x25 x26 x27 x28 x29 x30 x31 x32 x33 x34 x35 x36 x37 x38 x39 x40 x41 x42 x43 x44 x45 x46 x47 x48 x49 L:Int):lA Try.prog G (bV GB) (fZ (eI Try.prog 7) 1) aFQ (fF ([x0,x1,x2,x3,x4,x5,x6,x7,x8,x9,x10,x11,x12,x13,x14,x15,x16,x17,x18,x19,x20,x21,x22,x23,x24,x25,x26,x27,x28,x29,x30,x31,x32,x33,x34,x35,x36,x37,x38,x39,x40,x41,x42,x43,x44,x45,x46,x47,x48,x49]++[L])):=by
 intro hw hpp
 have hb:gT tY [0,x0,(Int.tmod x49 x0)]:=hw
 unfold tY at hb
 obtain⟨_,hn,hr,_⟩:=hb
 have e:iX G (fF ([x0,x1,x2,x3,x4,x5,x6,x7,x8,x9,x10,x11,x12,x13,x14,x15,x16,x17,x18,x19,x20,x21,x22,x23,x24,x25,x26,x27,x28,x29,x30,x31,x32,x33,x34,x35,x36,x37,x38,x39,x40,x41,x42,x43,x44,x45,x46,x47,x48,x49]++[L])) aFQ.es=cC x0 (Int.tmod x49 x0) (G 43 [G 44 [L,x0,x1,x2,x3,x4,x5,x6,x7,x8,x9,x10,x11,x12,x13,x14,x15,x16,x17,x18,x19,x20,x21,x22,x23,x24,x25,x26,x27,x28,x29,x30,x31,x32,x33,x34,x35,x36,x37,x38,x39,x40,x41,x42,x43,x44,x45,x46,x47,x48,G 83 [L,0,60]],x0]) (G 43 [G 94 [G 94 [0,G 95 [G 44 [L,x0,x1,x2,x3,x4,x5,x6,x7,x8,x9,x10,x11,x12,x13,x14,x15,x16,x17,x18,x19,x20,x21,x22,x23,x24,x25,x26,x27,x28,x29,x30,x31,x32,x33,x34,x35,x36,x37,x38,x39,x40,x41,x42,x43,x44,x45,x46,x47,x48,G 83 [L,0,60]],(Int.tmod x49 x0),x0-(Int.tmod x49 x0)]],G 95 [G 44 [L,x0,x1,x2,x3,x4,x5,x6,x7,x8,x9,x10,x11,x12,x13,x14,x15,x16,x17,x18,x19,x20,x21,x22,x23,x24,x25,x26,x27,x28,x29,x30,x31,x32,x33,x34,x35,x36,x37,x38,x39,x40,x41,x42,x43,x44,x45,x46,x47,x48,G 83 [L,0,60]],0,(Int.tmod x49 x0)]],x0-(Int.tmod x49 x0)+(Int.tmod x49 x0)]) 0:=by
  rw[iH]
  unfold cC
  congr 1
 rw[e]at hpp ⊢
 have hq:(Int.tmod x49 x0)≤x0:=by
  unfold aFQ at hpp
  simp only[nn,cC,List.cons_append,List.nil_append,Bool.or_eq_true,aS,ne_eq]at hpp
  exact hpp
 have hs:xY (G 43 [G 44 [L,x0,x1,x2,x3,x4,x5,x6,x7,x8,x9,x10,x11,x12,x13,x14,x15,x16,x17,x18,x19,x20,x21,x22,x23,x24,x25,x26,x27,x28,x29,x30,x31,x32,x33,x34,x35,x36,x37,x38,x39,x40,x41,x42,x43,x44,x45,x46,x47,x48,G 83 [L,0,60]],x0]) (G 43 [G 94 [G 94 [0,G 95 [G 44 [L,x0,x1,x2,x3,x4,x5,x6,x7,x8,x9,x10,x11,x12,x13,x14,x15,x16,x17,x18,x19,x20,x21,x22,x23,x24,x25,x26,x27,x28,x29,x30,x31,x32,x33,x34,x35,x36,x37,x38,x39,x40,x41,x42,x43,x44,x45,x46,x47,x48,G 83 [L,0,60]],(Int.tmod x49 x0),x0-(Int.tmod x49 x0)]],G 95 [G 44 [L,x0,x1,x2,x3,x4,x5,x6,x7,x8,x9,x10,x11,x12,x13,x14,x15,x16,x17,x18,x19,x20,x21,x22,x23,x24,x25,x26,x27,x28,x29,x30,x31,x32,x33,x34,x35,x36,x37,x38,x39,x40,x41,x42,x43,x44,x45,x46,x47,x48,G 83 [L,0,60]],0,(Int.tmod x49 x0)]],x0-(Int.tmod x49 x0)+(Int.tmod x49 x0)]):=fun k hk=>aCz L (Int.tmod x49 x0) x0 [x1,x2,x3,x4,x5,x6,x7,x8,x9,x10,x11,x12,x13,x14,x15,x16,x17,x18,x19,x20,x21,x22,x23,x24,x25,x26,x27,x28,x29,x30,x31,x32,x33,x34,x35,x36,x37,x38,x39,x40,x41,x42,x43,x44,x45,x46,x47,x48,G 83 [L,0,60]] rfl hn ⟨hr.1,hq⟩ k hk
 clear e hpp hw
 generalize G 43 [G 44 [L,x0,x1,x2,x3,x4,x5,x6,x7,x8,x9,x10,x11,x12,x13,x14,x15,x16,x17,x18,x19,x20,x21,x22,x23,x24,x25,x26,x27,x28,x29,x30,x31,x32,x33,x34,x35,x36,x37,x38,x39,x40,x41,x42,x43,x44,x45,x46,x47,x48,G 83 [L,0,60]],x0]=C at hs ⊢
 generalize G 43 [G 94 [G 94 [0,G 95 [G 44 [L,x0,x1,x2,x3,x4,x5,x6,x7,x8,x9,x10,x11,x12,x13,x14,x15,x16,x17,x18,x19,x20,x21,x22,x23,x24,x25,x26,x27,x28,x29,x30,x31,x32,x33,x34,x35,x36,x37,x38,x39,x40,x41,x42,x43,x44,x45,x46,x47,x48,G 83 [L,0,60]],(Int.tmod x49 x0),x0-(Int.tmod x49 x0)]],G 95 [G 44 [L,x0,x1,x2,x3,x4,x5,x6,x7,x8,x9,x10,x11,x12,x13,x14,x15,x16,x17,x18,x19,x20,x21,x22,x23,x24,x25,x26,x27,x28,x29,x30,x31,x32,x33,x34,x35,x36,x37,x38,x39,x40,x41,x42,x43,x44,x45,x46,x47,x48,G 83 [L,0,60]],0,(Int.tmod x49 x0)]],x0-(Int.tmod x49 x0)+(Int.tmod x49 x0)]=D at hs ⊢
 exact⟨145,iL (ι:=Nat) (ρ:=cC x0 (Int.tmod x49 x0) C D) (ρT:=fF ([x0,x1,x2,x3,x4,x5,x6,x7,x8,x9,x10,x11,x12,x13,x14,x15,x16,x17,x18,x19,x20,x21,x22,x23,x24,x25,x26,x27,x28,x29,x30,x31,x32,x33,x34,x35,x36,x37,x38,x39,x40,x41,x42,x43,x44,x45,x46,x47,x48,x49]++[L])) (m:=fun i=>144-i) (Good:=fun i=>i≤144) (run:=tV Try.prog) (fun _=>rfl) fits rfl iM (fun i hi=>aIr x0 (Int.tmod x49 x0) C D hn hr i hi) (fun _ _ X hX hG=>xO hX hG) (fun _ _ X hX hG=>iB) (fun i hi=>aMh x0 (Int.tmod x49 x0) C D hs (fF ([x0,x1,x2,x3,x4,x5,x6,x7,x8,x9,x10,x11,x12,x13,x14,x15,x16,x17,x18,x19,x20,x21,x22,x23,x24,x25,x26,x27,x28,x29,x30,x31,x32,x33,x34,x35,x36,x37,x38,x39,x40,x41,x42,x43,x44,x45,x46,x47,x48,x49]++[L])) i hi) (by decide) 145 0 (Nat.zero_le _) (by decide)⟩
theorem aOB {n f:Int} (hn:0≤n) (hf:0≤f) (h:¬n=0):Int.tmod f n≤n∧Int.tmod f n+(n-Int.tmod f n)≤n∧0<n-Int.tmod f n+Int.tmod f n:=by
 have r0:=Int.tmod_nonneg n hf
 have r1:=Int.tmod_lt_of_pos f (show 0<n by omega)
 omega
set_option maxHeartbeats 1000000 in
set_option maxRecDepth 100000 in
theorem aOX (x0 x1 x2 x3 x4 x5 x6 x7 x8 x9 x10 x11 x12 x13 x14 x15 x16 x17 x18 x19 x20 x21 x22 x23 x24 x25 x26 x27 x28 x29 x30 x31 x32 x33 x34 x35 x36 x37 x38 x39 x40 x41 x42 x43 x44 x45 x46 x47 x48 x49 L:Int) (b0:0≤x0∧x0≤9223372036854775807) (b1:(-9223372036854775808)≤x1∧x1≤9223372036854775807) (b2:0≤x2∧x2≤18446744073709551615) (b3:(-9223372036854775808)≤x3∧x3≤9223372036854775807) (b4:(-9223372036854775808)≤x4∧x4≤9223372036854775807) (b5:0≤x5∧x5≤18446744073709551615) (b6:(-9223372036854775808)≤x6∧x6≤9223372036854775807) (b7:(-9223372036854775808)≤x7∧x7≤9223372036854775807) (b8:0≤x8∧x8≤18446744073709551615) (b9:(-9223372036854775808)≤x9∧x9≤9223372036854775807) (b10:(-9223372036854775808)≤x10∧x10≤9223372036854775807) (b11:0≤x11∧x11≤18446744073709551615) (b12:(-9223372036854775808)≤x12∧x12≤9223372036854775807) (b13:(-9223372036854775808)≤x13∧x13≤9223372036854775807) (b14:0≤x14∧x14≤18446744073709551615) (b15:(-9223372036854775808)≤x15∧x15≤9223372036854775807) (b16:(-9223372036854775808)≤x16∧x16≤9223372036854775807) (b17:0≤x17∧x17≤18446744073709551615) (b18:(-9223372036854775808)≤x18∧x18≤9223372036854775807) (b19:(-9223372036854775808)≤x19∧x19≤9223372036854775807) (b20:0≤x20∧x20≤18446744073709551615) (b21:(-9223372036854775808)≤x21∧x21≤9223372036854775807) (b22:(-9223372036854775808)≤x22∧x22≤9223372036854775807) (b23:0≤x23∧x23≤18446744073709551615) (b24:(-9223372036854775808)≤x24∧x24≤9223372036854775807) (b25:(-9223372036854775808)≤x25∧x25≤9223372036854775807) (b26:0≤x26∧x26≤18446744073709551615) (b27:(-9223372036854775808)≤x27∧x27≤9223372036854775807) (b28:(-9223372036854775808)≤x28∧x28≤9223372036854775807) (b29:0≤x29∧x29≤18446744073709551615) (b30:(-9223372036854775808)≤x30∧x30≤9223372036854775807) (b31:(-9223372036854775808)≤x31∧x31≤9223372036854775807) (b32:0≤x32∧x32≤18446744073709551615) (b33:(-9223372036854775808)≤x33∧x33≤9223372036854775807) (b34:(-9223372036854775808)≤x34∧x34≤9223372036854775807) (b35:0≤x35∧x35≤18446744073709551615) (b36:(-9223372036854775808)≤x36∧x36≤9223372036854775807) (b37:(-9223372036854775808)≤x37∧x37≤9223372036854775807) (b38:0≤x38∧x38≤18446744073709551615) (b39:(-9223372036854775808)≤x39∧x39≤9223372036854775807) (b40:(-9223372036854775808)≤x40∧x40≤9223372036854775807) (b41:0≤x41∧x41≤18446744073709551615) (b42:(-9223372036854775808)≤x42∧x42≤9223372036854775807) (b43:(-9223372036854775808)≤x43∧x43≤9223372036854775807) (b44:0≤x44∧x44≤18446744073709551615) (b45:(-9223372036854775808)≤x45∧x45≤9223372036854775807) (b46:(-9223372036854775808)≤x46∧x46≤9223372036854775807) (b47:0≤x47∧x47≤18446744073709551615) (b48:(-9223372036854775808)≤x48∧x48≤9223372036854775807) (b49:0≤x49∧x49≤255):mE Try.prog G GB 7 aPQ (fF ([x0,x1,x2,x3,x4,x5,x6,x7,x8,x9,x10,x11,x12,x13,x14,x15,x16,x17,x18,x19,x20,x21,x22,x23,x24,x25,x26,x27,x28,x29,x30,x31,x32,x33,x34,x35,x36,x37,x38,x39,x40,x41,x42,x43,x44,x45,x46,x47,x48,x49]++[L])):=by
 refine jC (lp:=aN3) (run:=aJJ Try.prog) (fun _=>rfl) fits (fM (xs:=[x0,x1,x2,x3,x4,x5,x6,x7,x8,x9,x10,x11,x12,x13,x14,x15,x16,x17,x18,x19,x20,x21,x22,x23,x24,x25,x26,x27,x28,x29,x30,x31,x32,x33,x34,x35,x36,x37,x38,x39,x40,x41,x42,x43,x44,x45,x46,x47,x48,x49]) (ls:=[L]) (by exact⟨b0,b1,b2,b3,b4,b5,b6,b7,b8,b9,b10,b11,b12,b13,b14,b15,b16,b17,b18,b19,b20,b21,b22,b23,b24,b25,b26,b27,b28,b29,b30,b31,b32,b33,b34,b35,b36,b37,b38,b39,b40,b41,b42,b43,b44,b45,b46,b47,b48,b49,trivial⟩)) iM (fun X hX hG=>xO hX hG) (fun X hX hG fn c hf hc=>?_) rfl ?_
 ·refine oT ((congrArg bQ (sP hf hc)).symm.trans aKG) ?_
  intro b hb
  simp only[List.mem_cons,List.mem_nil_iff,or_false]at hb
  rcases hb with rfl|rfl
  ·refine nJ hX hG (by kernel_rfl) ?_
   intro p hp'
   simp only[List.mem_cons,List.mem_nil_iff,or_false]at hp'
   subst hp'
   exact aNf x0 x1 x2 x3 x4 x5 x6 x7 x8 x9 x10 x11 x12 x13 x14 x15 x16 x17 x18 x19 x20 x21 x22 x23 x24 x25 x26 x27 x28 x29 x30 x31 x32 x33 x34 x35 x36 x37 x38 x39 x40 x41 x42 x43 x44 x45 x46 x47 x48 x49 L
  ·refine aAE (j:=16) (by kernel_rfl) (by decide) (nJ hX hG (by kernel_rfl) ?_)
   intro p hp'
   simp only[List.mem_cons,List.mem_nil_iff,or_false]at hp'
   subst hp'
   exact aM7 x0 x1 x2 x3 x4 x5 x6 x7 x8 x9 x10 x11 x12 x13 x14 x15 x16 x17 x18 x19 x20 x21 x22 x23 x24 x25 x26 x27 x28 x29 x30 x31 x32 x33 x34 x35 x36 x37 x38 x39 x40 x41 x42 x43 x44 x45 x46 x47 x48 x49 L
 ·skip
  have hr:=fun h=>aOB (n:=x0) (f:=x49) b0.1 b49.1 h
  clear b0 b1 b2 b3 b4 b5 b6 b7 b8 b9 b10 b11 b12 b13 b14 b15 b16 b17 b18 b19 b20 b21 b22 b23 b24 b25 b26 b27 b28 b29 b30 b31 b32 b33 b34 b35 b36 b37 b38 b39 b40 b41 b42 b43 b44 b45 b46 b47 b48 b49
  refine aL iT (fun h0=>?_) (fun h0=>?_)
  ·skip
   refine aH aJ4 ?_
   unfold iT at h0;exact⟨rfl,trivial⟩
  refine aL jQ (fun h1=>?_) (fun h1=>?_)
  ·skip
   refine aH aIW ?_
   unfold iT at h0;unfold jQ at h1;exact⟨rfl,trivial⟩
  refine aL lV (fun h2=>?_) (fun h2=>?_)
  rotate_left
  ·skip
   refine bE ?_
   unfold iT at h0;unfold jQ at h1;unfold lV at h2;simp only[nn,List.cons_append,List.nil_append,Bool.or_eq_true,aS,ne_eq]at h0 h1 h2;first|exact absurd (hr h0).1 h2|exact absurd (hr h0).2.1 h2|exact absurd (hr h0).2.2 h2
  refine aL nO (fun h3=>?_) (fun h3=>?_)
  rotate_left
  ·skip
   refine bE ?_
   unfold iT at h0;unfold jQ at h1;unfold lV at h2;unfold nO at h3;simp only[nn,List.cons_append,List.nil_append,Bool.or_eq_true,aS,ne_eq]at h0 h1 h2 h3;first|exact absurd (hr h0).1 h3|exact absurd (hr h0).2.1 h3|exact absurd (hr h0).2.2 h3
  refine aL qZ (fun h4=>?_) (fun h4=>?_)
  ·skip
   refine aH aJv ?_
   unfold iT at h0;unfold jQ at h1;unfold lV at h2;unfold nO at h3;unfold qZ at h4;exact⟨rfl,trivial⟩
  refine bE ?_
  unfold iT at h0;unfold jQ at h1;unfold lV at h2;unfold nO at h3;unfold qZ at h4;simp only[nn,List.cons_append,List.nil_append,Bool.or_eq_true,aS,ne_eq]at h0 h1 h2 h3 h4;first|exact absurd (hr h0).1 h4|exact absurd (hr h0).2.1 h4|exact absurd (hr h0).2.2 h4
end Go.Proofs.Ytoiecphddchknaa
namespace Go.Proofs.Ytoiecphddchknaa
open Go.ChangeShapes Go.WideShapes Go.ChangeAt Go.RowKit
theorem aDK {P:Program} {W:World} {r:Reach} {base:Nat} {t:TypeId} {v:Value} (ks:List IntKind) (hagg:(match P.underlying t with|some (.struct _)|some (.array _ _)=>true|_=>false)=true)
  (hc:P.cellsOf t=ks.length) (hk0:(match P.cellTypes P.depth t with|some ts=>ts.length ==ks.length && (List.range ks.length).all fun i=>(match ts[i]?.bind P.underlying,ks[i]? with|some (.int q),some k=>q ==k|_,_=>false)|none=>false)=true) (h:Value.okWide P W r base t v):
  ∃ f:Nat→Int,v = .agg ((List.range ks.length).map fun i=>Value.int (ks.getD i .i64) (f i)).toArray∧∀ i k,ks[i]?=some k→k.min≤f i∧f i≤k.max:=by
 have h':∃ cs,v = .agg cs∧cs.size=P.cellsOf t∧Row.okWide P W r base t cs:=by
  unfold Value.okWide at h
  split at hagg
  ·rename_i hu;rw[hu]at h;exact h
  ·rename_i hu;rw[hu]at h;exact h
  ·cases hagg
 obtain⟨cs,rfl,hsz,ts,hts,_,hcell⟩:=h'
 rw[hts]at hk0
 simp only[Bool.and_eq_true,beq_iff_eq,List.all_eq_true,List.mem_range]at hk0
 obtain⟨hn,hk⟩:=hk0
 rw[hc]at hsz
 have hone:∀ (i:Nat) (k:IntKind),ks[i]?=some k→∃ q:Int,cs[i]?=some (Value.int k q)∧k.min≤q∧q≤k.max:=by
  intro i k hik
  have hi:i<ks.length:=(List.getElem?_eq_some_iff.1 hik).1
  have hi':i<cs.size:=by omega
  obtain⟨u,hu,ho⟩:=hcell i cs[i] (by simp [hi'])
  rw[Nat.mod_eq_of_lt (by omega)]at hu
  have hku:=hk i hi
  rw[hu,hik]at hku
  simp only[Option.bind_some]at hku
  split at hku
  ·rename_i q k' hq hk'
   have hqk:q=k':=by simpa using hku
   cases hk'
   subst hqk
   unfold Cell.okWide at ho
   rw[hq]at ho
   simp only at ho
   unfold Cell.ok at ho
   rw[hq]at ho
   cases hv:cs[i]with
   |int k' m=>
    rw[hv]at ho
    simp only at ho
    obtain⟨rfl,hlo,hhi⟩:=ho
    exact⟨m,by simp [hi',hv],hlo,hhi⟩
   |_=>rw[hv]at ho;exact ho.elim
  ·cases hku
 refine⟨fun i=>match cs[i]? with|some (.int _ q)=>q|_=>0,?_,?_⟩
 ·congr 1
  apply Array.ext'
  apply List.ext_getElem?
  intro i
  by_cases hi:i<ks.length
  ·obtain⟨q,hq,_⟩:=hone i ks[i] (by simp [hi])
   simp [hi,hq,List.getD,List.getElem?_eq_getElem hi]
  ·have:cs.size≤i:=by omega
   simp [hi,this]
 ·intro i k hik
  obtain⟨q,hq,h1,h2⟩:=hone i k hik
  simp only[hq]
  exact⟨h1,h2⟩
end Go.Proofs.Ytoiecphddchknaa
