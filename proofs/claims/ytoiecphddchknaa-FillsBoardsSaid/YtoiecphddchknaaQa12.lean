/- What is proved: the pixels of a triangle on a board of any size,as they are told. No condition but the numbers' own bounds. -/
import Derived.Test.YtoiecphddchknaaQNn
import Derived.Test.YtoiecphddchknaaQa10
import Derived.Test.YtoiecphddchknaaQa11
import Derived.Test.YtoiecphddchknaaQa3
import Derived.Test.YtoiecphddchknaaQa9
import Derived.Test.YtoiecphddchknaaQa2
import Derived.Test.YtoiecphddchknaaQa8
set_option linter.unusedSimpArgs false
set_option linter.unusedVariables false
namespace Go.Proofs.Ytoiecphddchknaa
open Go Go.RowKit Sx Wi
theorem aHC:bM (dJ Try.prog 78)=[fB (dJ Try.prog 78) 0,fB (dJ Try.prog 78) 1]:=by kernel_rfl
theorem aFX:bM (fB (dJ Try.prog 78) 0)=[fB (dJ Try.prog 78) 1]:=by kernel_rfl
theorem aLH {x0 x1 x2 x3 x4 x5 x6 x7 x8 x9 x10 x11 x12 x13 x14 x15 x16 x17 x18 x19 x20 x21 x22 x23 x24 x25 x26 x27 x28 x29 x30 x31 x32 x33 x34 x35 x36 x37 x38 x39 x40 x41 x42 x43 x44 x45 x46 C0:Int} (h:uS.den G (dP (([x0,x1,x2,x3,x4,x5,x6,x7,x8,x9,x10,x11,x12,x13,x14,x15,x16,x17,x18,x19,x20,x21,x22,x23,x24,x25,x26,x27,x28,x29,x30,x31,x32,x33,x34,x35,x36,x37,x38,x39,x40,x41,x42,x43,x44,x45,x46]:List Int)++[C0]))=true):uS.den G (dP ([x0,x1,x2,x3,x4,x5,x6,x7,x8,x9,x10,x11,x12,x13,x14,x15,x16,x17,x18,x19,x20,x21,x22,x23,x24,x25,x26,x27,x28,x29,x30,x31,x32,x33,x34,x35,x36,x37,x38,x39,x40,x41,x42,x43,x44,x45,x46]:List Int))=true:=by
 unfold uS at h ⊢
 simp only[nn,List.cons_append,List.nil_append,Bool.or_eq_true,aL,ne_eq]at h ⊢
 exact h
set_option maxHeartbeats 1000000 in
set_option maxRecDepth 100000 in
theorem aPV (x0 x1 x2 x3 x4 x5 x6 x7 x8 x9 x10 x11 x12 x13 x14 x15 x16 x17 x18 x19 x20 x21 x22 x23 x24 x25 x26 x27 x28 x29 x30 x31 x32 x33 x34 x35 x36 x37 x38 x39 x40 x41 x42 x43 x44 x45 x46 C0:Int) (b0:(-671088640)≤x0∧x0≤671088640) (b1:(-671088640)≤x1∧x1≤671088640) (b2:(-671088640)≤x2∧x2≤671088640) (b3:(-671088640)≤x3∧x3≤671088640) (b4:(-671088640)≤x4∧x4≤671088640) (b5:(-671088640)≤x5∧x5≤671088640) (b6:(-9223372036854775808)≤x6∧x6≤9223372036854775807) (b7:0≤x7∧x7≤18446744073709551615) (b8:(-9223372036854775808)≤x8∧x8≤9223372036854775807) (b9:0≤x9∧x9≤18446744073709551615) (b10:(-9223372036854775808)≤x10∧x10≤9223372036854775807) (b11:0≤x11∧x11≤18446744073709551615) (b12:(-9223372036854775808)≤x12∧x12≤9223372036854775807) (b13:0≤x13∧x13≤18446744073709551615) (b14:(-9223372036854775808)≤x14∧x14≤9223372036854775807) (b15:0≤x15∧x15≤18446744073709551615) (b16:(-9223372036854775808)≤x16∧x16≤9223372036854775807) (b17:0≤x17∧x17≤18446744073709551615) (b18:(-9223372036854775808)≤x18∧x18≤9223372036854775807) (b19:0≤x19∧x19≤18446744073709551615) (b20:(-9223372036854775808)≤x20∧x20≤9223372036854775807) (b21:0≤x21∧x21≤18446744073709551615) (b22:(-9223372036854775808)≤x22∧x22≤9223372036854775807) (b23:0≤x23∧x23≤18446744073709551615) (b24:(-9223372036854775808)≤x24∧x24≤9223372036854775807) (b25:0≤x25∧x25≤18446744073709551615) (b26:(-9223372036854775808)≤x26∧x26≤9223372036854775807) (b27:0≤x27∧x27≤18446744073709551615) (b28:(-9223372036854775808)≤x28∧x28≤9223372036854775807) (b29:0≤x29∧x29≤18446744073709551615) (b30:(-9223372036854775808)≤x30∧x30≤9223372036854775807) (b31:(-9223372036854775808)≤x31∧x31≤9223372036854775807) (b32:(-9223372036854775808)≤x32∧x32≤9223372036854775807) (b33:(-9223372036854775808)≤x33∧x33≤9223372036854775807) (b34:(-9223372036854775808)≤x34∧x34≤9223372036854775807) (b35:(-9223372036854775808)≤x35∧x35≤9223372036854775807) (b36:(-9223372036854775808)≤x36∧x36≤9223372036854775807) (b37:(-9223372036854775808)≤x37∧x37≤9223372036854775807) (b38:(-9223372036854775808)≤x38∧x38≤9223372036854775807) (b39:(-9223372036854775808)≤x39∧x39≤9223372036854775807) (b40:(-9223372036854775808)≤x40∧x40≤9223372036854775807) (b41:(-9223372036854775808)≤x41∧x41≤9223372036854775807) (b42:1≤x42∧x42≤4) (b43:(-9223372036854775808)≤x43∧x43≤9223372036854775807) (b44:1≤x44∧x44≤256) (b45:1≤x45∧x45≤256) (b46:1≤x46∧x46≤65536) (hp:uS.den G (dP ([x0,x1,x2,x3,x4,x5,x6,x7,x8,x9,x10,x11,x12,x13,x14,x15,x16,x17,x18,x19,x20,x21,x22,x23,x24,x25,x26,x27,x28,x29,x30,x31,x32,x33,x34,x35,x36,x37,x38,x39,x40,x41,x42,x43,x44,x45,x46]:List Int))=true):mE Try.prog G (bS GB) (fB (dJ Try.prog 78) 0) aGY (dP (([x0,x1,x2,x3,x4,x5,x6,x7,x8,x9,x10,x11,x12,x13,x14,x15,x16,x17,x18,x19,x20,x21,x22,x23,x24,x25,x26,x27,x28,x29,x30,x31,x32,x33,x34,x35,x36,x37,x38,x39,x40,x41,x42,x43,x44,x45,x46]:List Int)++[C0])):=by
 intro _ _
 obtain⟨hl,hr⟩:=aRL x0 x1 x2 x3 x4 x5 x6 x7 x8 x9 x10 x11 x12 x13 x14 x15 x16 x17 x18 x19 x20 x21 x22 x23 x24 x25 x26 x27 x28 x29 x30 x31 x32 x33 x34 x35 x36 x37 x38 x39 x40 x41 x42 x43 x44 x45 x46 ⟨b1,b3,b5⟩
 have e:jU G (dP (([x0,x1,x2,x3,x4,x5,x6,x7,x8,x9,x10,x11,x12,x13,x14,x15,x16,x17,x18,x19,x20,x21,x22,x23,x24,x25,x26,x27,x28,x29,x30,x31,x32,x33,x34,x35,x36,x37,x38,x39,x40,x41,x42,x43,x44,x45,x46]:List Int)++[C0])) aGY.es=eV x0 x1 x2 x3 x4 x5 x6 x7 x8 x9 x10 x11 x12 x13 x14 x15 x16 x17 x18 x19 x20 x21 x22 x23 x24 x25 x26 x27 x28 x29 x30 x31 x32 x33 x34 x35 x36 x37 x38 x39 x40 x41 x42 x43 x44 x45 x46 C0 0:=by
  rw[iF]
  unfold eV
  congr 1
  unfold aGY
  simp only[List.map_cons,List.map_nil]
  simp only[nn,List.cons_append,List.nil_append,Bool.or_eq_true,aL,ne_eq]
  rw[aFh,Int.natCast_zero,Int.add_zero]
  rfl
 rw[e]
 refine⟨(jT (cC x0 x1 x2 x3 x4 x5 x6 x7 x8 x9 x10 x11 x12 x13 x14 x15 x16 x17 x18 x19 x20 x21 x22 x23 x24 x25 x26 x27 x28 x29 x30 x31 x32 x33 x34 x35 x36 x37 x38 x39 x40 x41 x42 x43 x44 x45 x46)-aW (cC x0 x1 x2 x3 x4 x5 x6 x7 x8 x9 x10 x11 x12 x13 x14 x15 x16 x17 x18 x19 x20 x21 x22 x23 x24 x25 x26 x27 x28 x29 x30 x31 x32 x33 x34 x35 x36 x37 x38 x39 x40 x41 x42 x43 x44 x45 x46)).toNat+1,jE (ι:=Nat) (ρ:=eV x0 x1 x2 x3 x4 x5 x6 x7 x8 x9 x10 x11 x12 x13 x14 x15 x16 x17 x18 x19 x20 x21 x22 x23 x24 x25 x26 x27 x28 x29 x30 x31 x32 x33 x34 x35 x36 x37 x38 x39 x40 x41 x42 x43 x44 x45 x46 C0) (ρT:=dP (([x0,x1,x2,x3,x4,x5,x6,x7,x8,x9,x10,x11,x12,x13,x14,x15,x16,x17,x18,x19,x20,x21,x22,x23,x24,x25,x26,x27,x28,x29,x30,x31,x32,x33,x34,x35,x36,x37,x38,x39,x40,x41,x42,x43,x44,x45,x46]:List Int)++[C0])) (m:=fun i=>(jT (cC x0 x1 x2 x3 x4 x5 x6 x7 x8 x9 x10 x11 x12 x13 x14 x15 x16 x17 x18 x19 x20 x21 x22 x23 x24 x25 x26 x27 x28 x29 x30 x31 x32 x33 x34 x35 x36 x37 x38 x39 x40 x41 x42 x43 x44 x45 x46)-aW (cC x0 x1 x2 x3 x4 x5 x6 x7 x8 x9 x10 x11 x12 x13 x14 x15 x16 x17 x18 x19 x20 x21 x22 x23 x24 x25 x26 x27 x28 x29 x30 x31 x32 x33 x34 x35 x36 x37 x38 x39 x40 x41 x42 x43 x44 x45 x46)).toNat-i) (Good:=fun i=>i≤(jT (cC x0 x1 x2 x3 x4 x5 x6 x7 x8 x9 x10 x11 x12 x13 x14 x15 x16 x17 x18 x19 x20 x21 x22 x23 x24 x25 x26 x27 x28 x29 x30 x31 x32 x33 x34 x35 x36 x37 x38 x39 x40 x41 x42 x43 x44 x45 x46)-aW (cC x0 x1 x2 x3 x4 x5 x6 x7 x8 x9 x10 x11 x12 x13 x14 x15 x16 x17 x18 x19 x20 x21 x22 x23 x24 x25 x26 x27 x28 x29 x30 x31 x32 x33 x34 x35 x36 x37 x38 x39 x40 x41 x42 x43 x44 x45 x46)).toNat) (run:=uR Try.prog) (fun _=>rfl) fits rfl gM (fun i hi=>aML x0 x1 x2 x3 x4 x5 x6 x7 x8 x9 x10 x11 x12 x13 x14 x15 x16 x17 x18 x19 x20 x21 x22 x23 x24 x25 x26 x27 x28 x29 x30 x31 x32 x33 x34 x35 x36 x37 x38 x39 x40 x41 x42 x43 x44 x45 x46 C0 b0 b1 b2 b3 b4 b5 b6 b7 b8 b9 b10 b11 b12 b13 b14 b15 b16 b17 b18 b19 b20 b21 b22 b23 b24 b25 b26 b27 b28 b29 b30 b31 b32 b33 b34 b35 b36 b37 b38 b39 b40 b41 b42 b43 b44 b45 b46 i hi) (fun _ _ X hX hG=>pV hX hG) (fun i hi X hX hG=>?_) (fun i hi=>aOM x0 x1 x2 x3 x4 x5 x6 x7 x8 x9 x10 x11 x12 x13 x14 x15 x16 x17 x18 x19 x20 x21 x22 x23 x24 x25 x26 x27 x28 x29 x30 x31 x32 x33 x34 x35 x36 x37 x38 x39 x40 x41 x42 x43 x44 x45 x46 C0 b0 b1 b2 b3 b4 b5 b6 b7 b8 b9 b10 b11 b12 b13 b14 b15 b16 b17 b18 b19 b20 b21 b22 b23 b24 b25 b26 b27 b28 b29 b30 b31 b32 b33 b34 b35 b36 b37 b38 b39 b40 b41 b42 b43 b44 b45 b46 hp i hi) (by decide) ((jT (cC x0 x1 x2 x3 x4 x5 x6 x7 x8 x9 x10 x11 x12 x13 x14 x15 x16 x17 x18 x19 x20 x21 x22 x23 x24 x25 x26 x27 x28 x29 x30 x31 x32 x33 x34 x35 x36 x37 x38 x39 x40 x41 x42 x43 x44 x45 x46)-aW (cC x0 x1 x2 x3 x4 x5 x6 x7 x8 x9 x10 x11 x12 x13 x14 x15 x16 x17 x18 x19 x20 x21 x22 x23 x24 x25 x26 x27 x28 x29 x30 x31 x32 x33 x34 x35 x36 x37 x38 x39 x40 x41 x42 x43 x44 x45 x46)).toNat+1) 0 (Nat.zero_le _) (by show (jT (cC x0 x1 x2 x3 x4 x5 x6 x7 x8 x9 x10 x11 x12 x13 x14 x15 x16 x17 x18 x19 x20 x21 x22 x23 x24 x25 x26 x27 x28 x29 x30 x31 x32 x33 x34 x35 x36 x37 x38 x39 x40 x41 x42 x43 x44 x45 x46)-aW (cC x0 x1 x2 x3 x4 x5 x6 x7 x8 x9 x10 x11 x12 x13 x14 x15 x16 x17 x18 x19 x20 x21 x22 x23 x24 x25 x26 x27 x28 x29 x30 x31 x32 x33 x34 x35 x36 x37 x38 x39 x40 x41 x42 x43 x44 x45 x46)).toNat-0<(jT (cC x0 x1 x2 x3 x4 x5 x6 x7 x8 x9 x10 x11 x12 x13 x14 x15 x16 x17 x18 x19 x20 x21 x22 x23 x24 x25 x26 x27 x28 x29 x30 x31 x32 x33 x34 x35 x36 x37 x38 x39 x40 x41 x42 x43 x44 x45 x46)-aW (cC x0 x1 x2 x3 x4 x5 x6 x7 x8 x9 x10 x11 x12 x13 x14 x15 x16 x17 x18 x19 x20 x21 x22 x23 x24 x25 x26 x27 x28 x29 x30 x31 x32 x33 x34 x35 x36 x37 x38 x39 x40 x41 x42 x43 x44 x45 x46)).toNat+1;omega)⟩
 refine mT (bs:=[fB (dJ Try.prog 78) 1]) aFX ?_
 intro b hb
 simp only[List.mem_cons,List.mem_nil_iff,or_false]at hb
 subst hb
 refine oP hX hG (by kernel_rfl) ?_
 intro p hp'
 simp only[List.mem_cons,List.mem_nil_iff,or_false]at hp'
 subst hp'
 exact aPc x0 x1 x2 x3 x4 x5 x6 x7 x8 x9 x10 x11 x12 x13 x14 x15 x16 x17 x18 x19 x20 x21 x22 x23 x24 x25 x26 x27 x28 x29 x30 x31 x32 x33 x34 x35 x36 x37 x38 x39 x40 x41 x42 x43 x44 x45 x46 C0 b0 b1 b2 b3 b4 b5 b6 b7 b8 b9 b10 b11 b12 b13 b14 b15 b16 b17 b18 b19 b20 b21 b22 b23 b24 b25 b26 b27 b28 b29 b30 b31 b32 b33 b34 b35 b36 b37 b38 b39 b40 b41 b42 b43 b44 b45 b46 hp i
set_option maxHeartbeats 1000000 in
set_option maxRecDepth 100000 in
theorem aKl (x0 x1 x2 x3 x4 x5 x6 x7 x8 x9 x10 x11 x12 x13 x14 x15 x16 x17 x18 x19 x20 x21 x22 x23 x24 x25 x26 x27 x28 x29 x30 x31 x32 x33 x34 x35 x36 x37 x38 x39 x40 x41 x42 x43 x44 x45 x46 C0:Int) (b0:(-671088640)≤x0∧x0≤671088640) (b1:(-671088640)≤x1∧x1≤671088640) (b2:(-671088640)≤x2∧x2≤671088640) (b3:(-671088640)≤x3∧x3≤671088640) (b4:(-671088640)≤x4∧x4≤671088640) (b5:(-671088640)≤x5∧x5≤671088640) (b6:(-9223372036854775808)≤x6∧x6≤9223372036854775807) (b7:0≤x7∧x7≤18446744073709551615) (b8:(-9223372036854775808)≤x8∧x8≤9223372036854775807) (b9:0≤x9∧x9≤18446744073709551615) (b10:(-9223372036854775808)≤x10∧x10≤9223372036854775807) (b11:0≤x11∧x11≤18446744073709551615) (b12:(-9223372036854775808)≤x12∧x12≤9223372036854775807) (b13:0≤x13∧x13≤18446744073709551615) (b14:(-9223372036854775808)≤x14∧x14≤9223372036854775807) (b15:0≤x15∧x15≤18446744073709551615) (b16:(-9223372036854775808)≤x16∧x16≤9223372036854775807) (b17:0≤x17∧x17≤18446744073709551615) (b18:(-9223372036854775808)≤x18∧x18≤9223372036854775807) (b19:0≤x19∧x19≤18446744073709551615) (b20:(-9223372036854775808)≤x20∧x20≤9223372036854775807) (b21:0≤x21∧x21≤18446744073709551615) (b22:(-9223372036854775808)≤x22∧x22≤9223372036854775807) (b23:0≤x23∧x23≤18446744073709551615) (b24:(-9223372036854775808)≤x24∧x24≤9223372036854775807) (b25:0≤x25∧x25≤18446744073709551615) (b26:(-9223372036854775808)≤x26∧x26≤9223372036854775807) (b27:0≤x27∧x27≤18446744073709551615) (b28:(-9223372036854775808)≤x28∧x28≤9223372036854775807) (b29:0≤x29∧x29≤18446744073709551615) (b30:(-9223372036854775808)≤x30∧x30≤9223372036854775807) (b31:(-9223372036854775808)≤x31∧x31≤9223372036854775807) (b32:(-9223372036854775808)≤x32∧x32≤9223372036854775807) (b33:(-9223372036854775808)≤x33∧x33≤9223372036854775807) (b34:(-9223372036854775808)≤x34∧x34≤9223372036854775807) (b35:(-9223372036854775808)≤x35∧x35≤9223372036854775807) (b36:(-9223372036854775808)≤x36∧x36≤9223372036854775807) (b37:(-9223372036854775808)≤x37∧x37≤9223372036854775807) (b38:(-9223372036854775808)≤x38∧x38≤9223372036854775807) (b39:(-9223372036854775808)≤x39∧x39≤9223372036854775807) (b40:(-9223372036854775808)≤x40∧x40≤9223372036854775807) (b41:(-9223372036854775808)≤x41∧x41≤9223372036854775807) (b42:1≤x42∧x42≤4) (b43:(-9223372036854775808)≤x43∧x43≤9223372036854775807) (b44:1≤x44∧x44≤256) (b45:1≤x45∧x45≤256) (b46:1≤x46∧x46≤65536) (hp0:uS.den G (dP (([x0,x1,x2,x3,x4,x5,x6,x7,x8,x9,x10,x11,x12,x13,x14,x15,x16,x17,x18,x19,x20,x21,x22,x23,x24,x25,x26,x27,x28,x29,x30,x31,x32,x33,x34,x35,x36,x37,x38,x39,x40,x41,x42,x43,x44,x45,x46]:List Int)++[C0]))=true):kU Try.prog G GB 78 aFl (dP (([x0,x1,x2,x3,x4,x5,x6,x7,x8,x9,x10,x11,x12,x13,x14,x15,x16,x17,x18,x19,x20,x21,x22,x23,x24,x25,x26,x27,x28,x29,x30,x31,x32,x33,x34,x35,x36,x37,x38,x39,x40,x41,x42,x43,x44,x45,x46]:List Int)++[C0])):=by
 have hp:=aLH hp0
 refine fT (lp:=aNi) (run:=aDC Try.prog) (fun _=>rfl) fits (fX (by exact⟨b0,b1,b2,b3,b4,b5,b6,b7,b8,b9,b10,b11,b12,b13,b14,b15,b16,b17,b18,b19,b20,b21,b22,b23,b24,b25,b26,b27,b28,b29,b30,b31,b32,b33,b34,b35,b36,b37,b38,b39,b40,b41,b42,b43,b44,b45,b46,trivial⟩)) gM (fun X hX hG=>pV hX hG) (fun X hX hG fn c hf hc=>?_) rfl ?_
 ·refine mT ((congrArg bM (uQ hf hc)).symm.trans aHC) ?_
  intro b hb
  simp only[List.mem_cons,List.mem_nil_iff,or_false]at hb
  rcases hb with rfl|rfl
  ·refine oP hX hG (by kernel_rfl) ?_
   intro p hp'
   simp only[List.mem_cons,List.mem_nil_iff,or_false]at hp'
   subst hp'
   exact aPV x0 x1 x2 x3 x4 x5 x6 x7 x8 x9 x10 x11 x12 x13 x14 x15 x16 x17 x18 x19 x20 x21 x22 x23 x24 x25 x26 x27 x28 x29 x30 x31 x32 x33 x34 x35 x36 x37 x38 x39 x40 x41 x42 x43 x44 x45 x46 C0 b0 b1 b2 b3 b4 b5 b6 b7 b8 b9 b10 b11 b12 b13 b14 b15 b16 b17 b18 b19 b20 b21 b22 b23 b24 b25 b26 b27 b28 b29 b30 b31 b32 b33 b34 b35 b36 b37 b38 b39 b40 b41 b42 b43 b44 b45 b46 hp
  ·exact aBl (j:=6) (by kernel_rfl) (by decide) aDU
 ·skip
  refine aI sG (fun h0=>?_) (fun h0=>?_)
  ·skip
   refine aG aKK ?_
   unfold sG at h0;exact⟨rfl,trivial⟩
  refine aY ?_
  unfold sG at h0;exact absurd hp0 (by unfold uS;rw[h0];decide)
def rJ:Ctx→List SV→aM→Res (SV × aM):=iM GB aEe 1 uS aFl
theorem aGD {X:Ctx} {ρ:Nat→Int} (hX:X.Ok ρ) (hG:X.G=G):jS Try.prog X ρ GB 78 rJ:=by
 obtain⟨XG,XI,XV,XF⟩:=X
 simp only at hG
 subst hG
 refine fO hX ?_
 intro xs ls hw hl hp
 unfold aEe at hw
 obtain⟨x0,y0,e0,b0,h0⟩:=aF hw
 obtain⟨x1,y1,e1,b1,h1⟩:=aF h0
 obtain⟨x2,y2,e2,b2,h2⟩:=aF h1
 obtain⟨x3,y3,e3,b3,h3⟩:=aF h2
 obtain⟨x4,y4,e4,b4,h4⟩:=aF h3
 obtain⟨x5,y5,e5,b5,h5⟩:=aF h4
 obtain⟨x6,y6,e6,b6,h6⟩:=aF h5
 obtain⟨x7,y7,e7,b7,h7⟩:=aF h6
 obtain⟨x8,y8,e8,b8,h8⟩:=aF h7
 obtain⟨x9,y9,e9,b9,h9⟩:=aF h8
 obtain⟨x10,y10,e10,b10,h10⟩:=aF h9
 obtain⟨x11,y11,e11,b11,h11⟩:=aF h10
 obtain⟨x12,y12,e12,b12,h12⟩:=aF h11
 obtain⟨x13,y13,e13,b13,h13⟩:=aF h12
 obtain⟨x14,y14,e14,b14,h14⟩:=aF h13
 obtain⟨x15,y15,e15,b15,h15⟩:=aF h14
 obtain⟨x16,y16,e16,b16,h16⟩:=aF h15
 obtain⟨x17,y17,e17,b17,h17⟩:=aF h16
 obtain⟨x18,y18,e18,b18,h18⟩:=aF h17
 obtain⟨x19,y19,e19,b19,h19⟩:=aF h18
 obtain⟨x20,y20,e20,b20,h20⟩:=aF h19
 obtain⟨x21,y21,e21,b21,h21⟩:=aF h20
 obtain⟨x22,y22,e22,b22,h22⟩:=aF h21
 obtain⟨x23,y23,e23,b23,h23⟩:=aF h22
 obtain⟨x24,y24,e24,b24,h24⟩:=aF h23
 obtain⟨x25,y25,e25,b25,h25⟩:=aF h24
 obtain⟨x26,y26,e26,b26,h26⟩:=aF h25
 obtain⟨x27,y27,e27,b27,h27⟩:=aF h26
 obtain⟨x28,y28,e28,b28,h28⟩:=aF h27
 obtain⟨x29,y29,e29,b29,h29⟩:=aF h28
 obtain⟨x30,y30,e30,b30,h30⟩:=aF h29
 obtain⟨x31,y31,e31,b31,h31⟩:=aF h30
 obtain⟨x32,y32,e32,b32,h32⟩:=aF h31
 obtain⟨x33,y33,e33,b33,h33⟩:=aF h32
 obtain⟨x34,y34,e34,b34,h34⟩:=aF h33
 obtain⟨x35,y35,e35,b35,h35⟩:=aF h34
 obtain⟨x36,y36,e36,b36,h36⟩:=aF h35
 obtain⟨x37,y37,e37,b37,h37⟩:=aF h36
 obtain⟨x38,y38,e38,b38,h38⟩:=aF h37
 obtain⟨x39,y39,e39,b39,h39⟩:=aF h38
 obtain⟨x40,y40,e40,b40,h40⟩:=aF h39
 obtain⟨x41,y41,e41,b41,h41⟩:=aF h40
 obtain⟨x42,y42,e42,b42,h42⟩:=aF h41
 obtain⟨x43,y43,e43,b43,h43⟩:=aF h42
 obtain⟨x44,y44,e44,b44,h44⟩:=aF h43
 obtain⟨x45,y45,e45,b45,h45⟩:=aF h44
 obtain⟨x46,y46,e46,b46,h46⟩:=aF h45
 have e47:=pG h46
 subst e47 e46 e45 e44 e43 e42 e41 e40 e39 e38 e37 e36 e35 e34 e33 e32 e31 e30 e29 e28 e27 e26 e25 e24 e23 e22 e21 e20 e19 e18 e17 e16 e15 e14 e13 e12 e11 e10 e9 e8 e7 e6 e5 e4 e3 e2 e1 e0
 obtain⟨l0,rfl⟩:=aDn hl
 exact aKl x0 x1 x2 x3 x4 x5 x6 x7 x8 x9 x10 x11 x12 x13 x14 x15 x16 x17 x18 x19 x20 x21 x22 x23 x24 x25 x26 x27 x28 x29 x30 x31 x32 x33 x34 x35 x36 x37 x38 x39 x40 x41 x42 x43 x44 x45 x46 l0 b0 b1 b2 b3 b4 b5 b6 b7 b8 b9 b10 b11 b12 b13 b14 b15 b16 b17 b18 b19 b20 b21 b22 b23 b24 b25 b26 b27 b28 b29 b30 b31 b32 b33 b34 b35 b36 b37 b38 b39 b40 b41 b42 b43 b44 b45 b46 hp
def aHk:aX:=lE 78 rJ zD
theorem aF4 {X:Ctx} {ρ:Nat→Int} (hX:X.Ok ρ) (hG:X.G=G):gL Try.prog X ρ GB aHk:=jA (aGD hX hG) (pV hX hG)
def aLj:aX:=lE 36 oZ (eI 35 uG aHk)
theorem aC4 {X:Ctx} {ρ:Nat→Int} (hX:X.Ok ρ) (hG:X.G=G):gL Try.prog X ρ GB aLj:=jA (aCL hX hG) (bX (aQE hX hG) (aF4 hX hG))
def zG:List (Int × Int):=[((-9223372036854775808),9223372036854775807),((-9223372036854775808),9223372036854775807),((-9223372036854775808),9223372036854775807),((-9223372036854775808),9223372036854775807),((-9223372036854775808),9223372036854775807),((-9223372036854775808),9223372036854775807),((-9223372036854775808),9223372036854775807),(0,18446744073709551615),((-9223372036854775808),9223372036854775807),((-9223372036854775808),9223372036854775807),(0,18446744073709551615),((-9223372036854775808),9223372036854775807),((-9223372036854775808),9223372036854775807),(0,18446744073709551615),((-9223372036854775808),9223372036854775807),((-9223372036854775808),9223372036854775807),(0,18446744073709551615),((-9223372036854775808),9223372036854775807),((-9223372036854775808),9223372036854775807),(0,18446744073709551615),((-9223372036854775808),9223372036854775807),((-9223372036854775808),9223372036854775807),(0,18446744073709551615),((-9223372036854775808),9223372036854775807),((-9223372036854775808),9223372036854775807),(0,18446744073709551615),((-9223372036854775808),9223372036854775807),((-9223372036854775808),9223372036854775807),(0,18446744073709551615),((-9223372036854775808),9223372036854775807),((-9223372036854775808),9223372036854775807),(0,18446744073709551615),((-9223372036854775808),9223372036854775807),((-9223372036854775808),9223372036854775807),(0,18446744073709551615),((-9223372036854775808),9223372036854775807),((-9223372036854775808),9223372036854775807),(0,18446744073709551615),((-9223372036854775808),9223372036854775807),((-9223372036854775808),9223372036854775807),(0,18446744073709551615),((-9223372036854775808),9223372036854775807),((-9223372036854775808),9223372036854775807),((-9223372036854775808),9223372036854775807),(1,256),(1,256),(1,65536)]
def cY:B:=(.and (.and (.cmp .le (.lit (-671088640)) (.var 0)) (.and (.cmp .le (.var 0) (.lit 671088640)) (.and (.cmp .le (.lit (-671088640)) (.var 1)) (.and (.cmp .le (.var 1) (.lit 671088640)) (.and (.cmp .le (.lit (-671088640)) (.var 2)) (.and (.cmp .le (.var 2) (.lit 671088640)) (.and (.cmp .le (.lit (-671088640)) (.var 3)) (.and (.cmp .le (.var 3) (.lit 671088640)) (.and (.cmp .le (.lit (-671088640)) (.var 4)) (.and (.cmp .le (.var 4) (.lit 671088640)) (.and (.cmp .le (.lit (-671088640)) (.var 5)) (.cmp .le (.var 5) (.lit 671088640))))))))))))) (.and (.cmp .le (.lit 1) (.var 42)) (.and (.cmp .le (.var 42) (.lit 4)) (.and (.or (.cmp .le (.var 42) (.lit 0)) (.and (.cmp .le (.lit (-1125899906842624)) (.op .add (.op .mul (.var 6) (.lit 18446744073709551616)) (.var 7))) (.and (.cmp .le (.op .add (.op .mul (.var 6) (.lit 18446744073709551616)) (.var 7)) (.lit 1125899906842624)) (.and (.cmp .le (.lit (-1125899906842624)) (.op .add (.op .mul (.var 18) (.lit 18446744073709551616)) (.var 19))) (.and (.cmp .le (.op .add (.op .mul (.var 18) (.lit 18446744073709551616)) (.var 19)) (.lit 1125899906842624)) (.and (.cmp .le (.lit (-1125899906842624)) (.op .add (.op .mul (.var 30) (.lit 18446744073709551616)) (.var 31))) (.and (.cmp .le (.op .add (.op .mul (.var 30) (.lit 18446744073709551616)) (.var 31)) (.lit 1125899906842624)) (.and (.cmp .le (.lit 1) (.var 8)) (.and (.cmp .le (.var 8) (.lit 65535)) (.and (.cmp .eq (.var 20) (.var 8)) (.cmp .eq (.var 32) (.var 8)))))))))))) (.and (.or (.cmp .le (.var 42) (.lit 1)) (.and (.cmp .le (.lit (-1125899906842624)) (.op .add (.op .mul (.var 9) (.lit 18446744073709551616)) (.var 10))) (.and (.cmp .le (.op .add (.op .mul (.var 9) (.lit 18446744073709551616)) (.var 10)) (.lit 1125899906842624)) (.and (.cmp .le (.lit (-1125899906842624)) (.op .add (.op .mul (.var 21) (.lit 18446744073709551616)) (.var 22))) (.and (.cmp .le (.op .add (.op .mul (.var 21) (.lit 18446744073709551616)) (.var 22)) (.lit 1125899906842624)) (.and (.cmp .le (.lit (-1125899906842624)) (.op .add (.op .mul (.var 33) (.lit 18446744073709551616)) (.var 34))) (.and (.cmp .le (.op .add (.op .mul (.var 33) (.lit 18446744073709551616)) (.var 34)) (.lit 1125899906842624)) (.and (.cmp .le (.lit 1) (.var 11)) (.and (.cmp .le (.var 11) (.lit 65535)) (.and (.cmp .eq (.var 23) (.var 11)) (.cmp .eq (.var 35) (.var 11)))))))))))) (.and (.or (.cmp .le (.var 42) (.lit 2)) (.and (.cmp .le (.lit (-1125899906842624)) (.op .add (.op .mul (.var 12) (.lit 18446744073709551616)) (.var 13))) (.and (.cmp .le (.op .add (.op .mul (.var 12) (.lit 18446744073709551616)) (.var 13)) (.lit 1125899906842624)) (.and (.cmp .le (.lit (-1125899906842624)) (.op .add (.op .mul (.var 24) (.lit 18446744073709551616)) (.var 25))) (.and (.cmp .le (.op .add (.op .mul (.var 24) (.lit 18446744073709551616)) (.var 25)) (.lit 1125899906842624)) (.and (.cmp .le (.lit (-1125899906842624)) (.op .add (.op .mul (.var 36) (.lit 18446744073709551616)) (.var 37))) (.and (.cmp .le (.op .add (.op .mul (.var 36) (.lit 18446744073709551616)) (.var 37)) (.lit 1125899906842624)) (.and (.cmp .le (.lit 1) (.var 14)) (.and (.cmp .le (.var 14) (.lit 65535)) (.and (.cmp .eq (.var 26) (.var 14)) (.cmp .eq (.var 38) (.var 14)))))))))))) (.or (.cmp .le (.var 42) (.lit 3)) (.and (.cmp .le (.lit (-1125899906842624)) (.op .add (.op .mul (.var 15) (.lit 18446744073709551616)) (.var 16))) (.and (.cmp .le (.op .add (.op .mul (.var 15) (.lit 18446744073709551616)) (.var 16)) (.lit 1125899906842624)) (.and (.cmp .le (.lit (-1125899906842624)) (.op .add (.op .mul (.var 27) (.lit 18446744073709551616)) (.var 28))) (.and (.cmp .le (.op .add (.op .mul (.var 27) (.lit 18446744073709551616)) (.var 28)) (.lit 1125899906842624)) (.and (.cmp .le (.lit (-1125899906842624)) (.op .add (.op .mul (.var 39) (.lit 18446744073709551616)) (.var 40))) (.and (.cmp .le (.op .add (.op .mul (.var 39) (.lit 18446744073709551616)) (.var 40)) (.lit 1125899906842624)) (.and (.cmp .le (.lit 1) (.var 17)) (.and (.cmp .le (.var 17) (.lit 65535)) (.and (.cmp .eq (.var 29) (.var 17)) (.cmp .eq (.var 41) (.var 17))))))))))))))))))
def uZ:B:=(.cmp .eq (.var 46) (.op .mul (.var 44) (.var 45)))
def aBZ:FunS:=⟨[(.ptr 1 0),(.agg [(.int .i64 (.var 0)),(.int .i64 (.var 1)),(.int .i64 (.var 2)),(.int .i64 (.var 3)),(.int .i64 (.var 4)),(.int .i64 (.var 5))]),(.agg [(.int .i64 (.var 6)),(.int .u64 (.var 7)),(.int .i64 (.var 8)),(.int .i64 (.var 9)),(.int .u64 (.var 10)),(.int .i64 (.var 11)),(.int .i64 (.var 12)),(.int .u64 (.var 13)),(.int .i64 (.var 14)),(.int .i64 (.var 15)),(.int .u64 (.var 16)),(.int .i64 (.var 17)),(.int .i64 (.var 18)),(.int .u64 (.var 19)),(.int .i64 (.var 20)),(.int .i64 (.var 21)),(.int .u64 (.var 22)),(.int .i64 (.var 23)),(.int .i64 (.var 24)),(.int .u64 (.var 25)),(.int .i64 (.var 26)),(.int .i64 (.var 27)),(.int .u64 (.var 28)),(.int .i64 (.var 29)),(.int .i64 (.var 30)),(.int .u64 (.var 31)),(.int .i64 (.var 32)),(.int .i64 (.var 33)),(.int .u64 (.var 34)),(.int .i64 (.var 35)),(.int .i64 (.var 36)),(.int .u64 (.var 37)),(.int .i64 (.var 38)),(.int .i64 (.var 39)),(.int .u64 (.var 40)),(.int .i64 (.var 41))]),(.int .i64 (.var 42)),(.int .i64 (.var 43))],[some ([.vec [.bool,.int .i64,.int .i32,.int .i32,.int .i32,.int .i32,.int .i32,.int .i32] (.var 47) (.var 46) true],aZ+46),some ([(.int .i64 (.var 44)),(.int .i64 (.var 45)),(.own 0 (.var 46) (some (.var 46)))],78)],cY,(.int .i64 (.lit 0)),[some ([.vec [.bool,.int .i64,.int .i32,.int .i32,.int .i32,.int .i32,.int .i32,.int .i32] (.app 77 (.cons (.var 0) (.cons (.var 1) (.cons (.var 2) (.cons (.var 3) (.cons (.var 4) (.cons (.var 5) (.cons (.op .add (.op .mul (.var 6) (.lit 18446744073709551616)) (.var 7)) (.cons (.op .add (.op .mul (.var 9) (.lit 18446744073709551616)) (.var 10)) (.cons (.op .add (.op .mul (.var 12) (.lit 18446744073709551616)) (.var 13)) (.cons (.op .add (.op .mul (.var 15) (.lit 18446744073709551616)) (.var 16)) (.cons (.op .add (.op .mul (.var 18) (.lit 18446744073709551616)) (.var 19)) (.cons (.op .add (.op .mul (.var 21) (.lit 18446744073709551616)) (.var 22)) (.cons (.op .add (.op .mul (.var 24) (.lit 18446744073709551616)) (.var 25)) (.cons (.op .add (.op .mul (.var 27) (.lit 18446744073709551616)) (.var 28)) (.cons (.op .add (.op .mul (.var 30) (.lit 18446744073709551616)) (.var 31)) (.cons (.op .add (.op .mul (.var 33) (.lit 18446744073709551616)) (.var 34)) (.cons (.op .add (.op .mul (.var 36) (.lit 18446744073709551616)) (.var 37)) (.cons (.op .add (.op .mul (.var 39) (.lit 18446744073709551616)) (.var 40)) (.cons (.var 8) (.cons (.var 11) (.cons (.var 14) (.cons (.var 17) (.cons (.var 42) (.cons (.var 43) (.cons (.var 44) (.cons (.var 45) (.cons (.var 47) (.cons (.op .max (.op .max (.lit 0) (.op .fdiv (.op .sub (.op .add (.op .sub (.op .min (.op .min (.var 1) (.var 3)) (.var 5)) (.lit 128)) (.lit 256)) (.lit 1)) (.lit 256))) (.op .min (.var 45) (.op .add (.op .fdiv (.op .sub (.op .max (.op .max (.var 1) (.var 3)) (.var 5)) (.lit 128)) (.lit 256)) (.lit 1)))) .nil))))))))))))))))))))))))))))) (.var 46) true],aZ+46),some ([(.int .i64 (.var 44)),(.int .i64 (.var 45)),(.own 0 (.var 46) (some (.var 46)))],78)],(.int .i64 (.lit 1)),[some ([.vec [.bool,.int .i64,.int .i32,.int .i32,.int .i32,.int .i32,.int .i32,.int .i32] (.var 47) (.var 46) true],aZ+46),some ([(.int .i64 (.var 44)),(.int .i64 (.var 45)),(.own 0 (.var 46) (some (.var 46)))],78)]⟩
def aBn (P:Program) (fs:List B):Res SV:=bY G GI zG fs fun X=>lX P X GB aLj iH 4000 12 aBZ
end Go.Proofs.Ytoiecphddchknaa
set_option maxRecDepth 100000
namespace Go.Proofs.Ytoiecphddchknaa
open Go Go.RowKit Sx Wi
def gY (P:Program) (fs:List B):Res SV:=aBn P fs
def aII:List B:=[]
def dQ:B:=(.cmp .eq (.var 46) (.op .mul (.var 44) (.var 45)))
def aBg:List B:=aK dQ++aII
def dU:B:=(.cmp .lt (.var 42) (.lit 1))
def aIP:List B:=aK dU++aBg
def aAI:List B:=aK (B.neg dU)++aBg
def eG:B:=(.cmp .lt (.lit 4) (.var 42))
def aJq:List B:=aK eG++aAI
def aAR:List B:=aK (B.neg eG)++aAI
def eR:B:=(.and (.cmp .le (.lit (-671088640)) (.var 0)) (.and (.cmp .le (.var 0) (.lit 671088640)) (.and (.cmp .le (.lit (-671088640)) (.var 1)) (.and (.cmp .le (.var 1) (.lit 671088640)) (.and (.cmp .le (.lit (-671088640)) (.var 2)) (.and (.cmp .le (.var 2) (.lit 671088640)) (.and (.cmp .le (.lit (-671088640)) (.var 3)) (.and (.cmp .le (.var 3) (.lit 671088640)) (.and (.cmp .le (.lit (-671088640)) (.var 4)) (.and (.cmp .le (.var 4) (.lit 671088640)) (.and (.cmp .le (.lit (-671088640)) (.var 5)) (.cmp .le (.var 5) (.lit 671088640)))))))))))))
def aAC:List B:=aK eR++aAR
def fG:B:=(.and (.cmp .le (.lit (-1125899906842624)) (.op .add (.op .mul (.var 6) (.lit 18446744073709551616)) (.var 7))) (.and (.cmp .le (.op .add (.op .mul (.var 6) (.lit 18446744073709551616)) (.var 7)) (.lit 1125899906842624)) (.and (.cmp .le (.lit (-1125899906842624)) (.op .add (.op .mul (.var 18) (.lit 18446744073709551616)) (.var 19))) (.and (.cmp .le (.op .add (.op .mul (.var 18) (.lit 18446744073709551616)) (.var 19)) (.lit 1125899906842624)) (.and (.cmp .le (.lit (-1125899906842624)) (.op .add (.op .mul (.var 30) (.lit 18446744073709551616)) (.var 31))) (.and (.cmp .le (.op .add (.op .mul (.var 30) (.lit 18446744073709551616)) (.var 31)) (.lit 1125899906842624)) (.and (.cmp .le (.lit 1) (.var 8)) (.and (.cmp .le (.var 8) (.lit 65535)) (.and (.cmp .eq (.var 20) (.var 8)) (.cmp .eq (.var 32) (.var 8)))))))))))
def aAT:List B:=aK fG++aAC
def gH:B:=(.cmp .lt (.lit 1) (.var 42))
def aA0:List B:=aK gH++aAT
def iA:B:=(.and (.cmp .le (.lit (-1125899906842624)) (.op .add (.op .mul (.var 9) (.lit 18446744073709551616)) (.var 10))) (.and (.cmp .le (.op .add (.op .mul (.var 9) (.lit 18446744073709551616)) (.var 10)) (.lit 1125899906842624)) (.and (.cmp .le (.lit (-1125899906842624)) (.op .add (.op .mul (.var 21) (.lit 18446744073709551616)) (.var 22))) (.and (.cmp .le (.op .add (.op .mul (.var 21) (.lit 18446744073709551616)) (.var 22)) (.lit 1125899906842624)) (.and (.cmp .le (.lit (-1125899906842624)) (.op .add (.op .mul (.var 33) (.lit 18446744073709551616)) (.var 34))) (.and (.cmp .le (.op .add (.op .mul (.var 33) (.lit 18446744073709551616)) (.var 34)) (.lit 1125899906842624)) (.and (.cmp .le (.lit 1) (.var 11)) (.and (.cmp .le (.var 11) (.lit 65535)) (.and (.cmp .eq (.var 23) (.var 11)) (.cmp .eq (.var 35) (.var 11)))))))))))
def aAr:List B:=aK iA++aA0
def jG:B:=(.cmp .lt (.lit 2) (.var 42))
def zA:List B:=aK jG++aAr
def jY:B:=(.and (.cmp .le (.lit (-1125899906842624)) (.op .add (.op .mul (.var 12) (.lit 18446744073709551616)) (.var 13))) (.and (.cmp .le (.op .add (.op .mul (.var 12) (.lit 18446744073709551616)) (.var 13)) (.lit 1125899906842624)) (.and (.cmp .le (.lit (-1125899906842624)) (.op .add (.op .mul (.var 24) (.lit 18446744073709551616)) (.var 25))) (.and (.cmp .le (.op .add (.op .mul (.var 24) (.lit 18446744073709551616)) (.var 25)) (.lit 1125899906842624)) (.and (.cmp .le (.lit (-1125899906842624)) (.op .add (.op .mul (.var 36) (.lit 18446744073709551616)) (.var 37))) (.and (.cmp .le (.op .add (.op .mul (.var 36) (.lit 18446744073709551616)) (.var 37)) (.lit 1125899906842624)) (.and (.cmp .le (.lit 1) (.var 14)) (.and (.cmp .le (.var 14) (.lit 65535)) (.and (.cmp .eq (.var 26) (.var 14)) (.cmp .eq (.var 38) (.var 14)))))))))))
def aAa:List B:=aK jY++zA
def lI:B:=(.cmp .lt (.lit 3) (.var 42))
def aAb:List B:=aK lI++aAa
def lU:B:=(.and (.cmp .le (.lit (-1125899906842624)) (.op .add (.op .mul (.var 15) (.lit 18446744073709551616)) (.var 16))) (.and (.cmp .le (.op .add (.op .mul (.var 15) (.lit 18446744073709551616)) (.var 16)) (.lit 1125899906842624)) (.and (.cmp .le (.lit (-1125899906842624)) (.op .add (.op .mul (.var 27) (.lit 18446744073709551616)) (.var 28))) (.and (.cmp .le (.op .add (.op .mul (.var 27) (.lit 18446744073709551616)) (.var 28)) (.lit 1125899906842624)) (.and (.cmp .le (.lit (-1125899906842624)) (.op .add (.op .mul (.var 39) (.lit 18446744073709551616)) (.var 40))) (.and (.cmp .le (.op .add (.op .mul (.var 39) (.lit 18446744073709551616)) (.var 40)) (.lit 1125899906842624)) (.and (.cmp .le (.lit 1) (.var 17)) (.and (.cmp .le (.var 17) (.lit 65535)) (.and (.cmp .eq (.var 29) (.var 17)) (.cmp .eq (.var 41) (.var 17)))))))))))
def aFw:List B:=aK lU++aAb
def aFi:List B:=aK (B.neg lU)++aAb
def aEh:List B:=aK (B.neg lI)++aAa
def aEn:List B:=aK (B.neg jY)++zA
def aEG:List B:=aK (B.neg jG)++aAr
def aEO:List B:=aK (B.neg iA)++aA0
def aFd:List B:=aK (B.neg gH)++aAT
def aFS:List B:=aK (B.neg fG)++aAC
def aEI:List B:=aK (B.neg eR)++aAR
theorem aJt:gY Try.prog aIP = .ok (.tuple [(.agg []),(.bool (.lit false))]):=by kernel_rfl
theorem aIc:gY Try.prog aJq = .ok (.tuple [(.agg []),(.bool (.lit false))]):=by kernel_rfl
theorem aD6:gY Try.prog aFw = .ok (.tuple [(.agg []),(.bool (.lit true))]):=by kernel_rfl
theorem aEv:gY Try.prog aFi = .ok (.tuple [(.agg []),(.bool (.lit false))]):=by kernel_rfl
theorem aE4:gY Try.prog aEh = .ok (.tuple [(.agg []),(.bool (.lit true))]):=by kernel_rfl
theorem aFf:gY Try.prog aEn = .ok (.tuple [(.agg []),(.bool (.lit false))]):=by kernel_rfl
theorem aFU:gY Try.prog aEG = .ok (.tuple [(.agg []),(.bool (.lit true))]):=by kernel_rfl
theorem aEQ:gY Try.prog aEO = .ok (.tuple [(.agg []),(.bool (.lit false))]):=by kernel_rfl
theorem aFg:gY Try.prog aFd = .ok (.tuple [(.agg []),(.bool (.lit true))]):=by kernel_rfl
theorem aFH:gY Try.prog aFS = .ok (.tuple [(.agg []),(.bool (.lit false))]):=by kernel_rfl
theorem aFM:gY Try.prog aEI = .ok (.tuple [(.agg []),(.bool (.lit false))]):=by kernel_rfl
end Go.Proofs.Ytoiecphddchknaa
set_option maxRecDepth 100000
namespace Go.Proofs.Ytoiecphddchknaa
open Go Go.RowKit Sx Wi
def aGz (P:Program) (fs:List B):Res SV:=bY G GI [] fs (fun X=>mW P X GB aK8 4000 10 [])
def aM0:List B:=[]
theorem aMX:aGz Try.prog aM0 = .ok (.bool (.and (.or (.and (.lit false) (.lit false)) (.and (.lit true) (.lit true))) (.and (.cmp .eq (.lit 0) (.lit 0)) (.and (.cmp .eq (.lit 0) (.lit 0)) (.and (.cmp .eq (.lit 0) (.lit 0)) (.and (.cmp .eq (.lit 0) (.lit 0)) (.and (.cmp .eq (.lit 0) (.lit 0)) (.and (.cmp .eq (.lit 0) (.lit 0)) (.cmp .eq (.lit 0) (.lit 0)))))))))):=by kernel_rfl
end Go.Proofs.Ytoiecphddchknaa
namespace Go.Proofs.Ytoiecphddchknaa
open Go Go.RowKit Sx Wi
set_option maxRecDepth 100000 in
theorem aI0   (w:World) (hw:WOk GB w):eB Try.prog 10∧Calls Try.prog 10 #[] w (fun e w'=>e = .returned (.bool true)∧Below w.heap.size w w'):=by
 refine iR (eZ (ρ:=dP []) (run:=fun fs=>aGz Try.prog fs) (fun _=>rfl) fits (cF trivial) gM (fun X hX hG=>aDt hX hG) rfl rfl eA ?_ w hw)
 refine aG aMX ?_
 exact⟨rfl,rfl⟩
def oO:iI:=fun _ args=>
 match args with
 |[] => .ok (.bool (.lit true))
 |_ => .fail 201
theorem aKO {X:Ctx} {ρ:Nat→Int} (hX:X.Ok ρ) (hG:X.G=G):dT Try.prog X ρ GB 10 oO:=by
 obtain⟨XG,XI,XV,XF⟩:=X
 simp only at hG
 subst hG
 intro args s h α w vals hv hw
 unfold oO at h
 split at h
 ·cases h
  exact bB hv rfl rfl (aI0 w hw)
 ·cases h
set_option maxHeartbeats 4000000 in
set_option maxRecDepth 100000 in
theorem aIp (x0 x1 x2 x3 x4 x5 x6 x7 x8 x9 x10 x11 x12 x13 x14 x15 x16 x17 x18 x19 x20 x21 x22 x23 x24 x25 x26 x27 x28 x29 x30 x31 x32 x33 x34 x35 x36 x37 x38 x39 x40 x41 x42 x43 x44 x45 x46 C0:Int) (b0:(-9223372036854775808)≤x0∧x0≤9223372036854775807) (b1:(-9223372036854775808)≤x1∧x1≤9223372036854775807) (b2:(-9223372036854775808)≤x2∧x2≤9223372036854775807) (b3:(-9223372036854775808)≤x3∧x3≤9223372036854775807) (b4:(-9223372036854775808)≤x4∧x4≤9223372036854775807) (b5:(-9223372036854775808)≤x5∧x5≤9223372036854775807) (b6:(-9223372036854775808)≤x6∧x6≤9223372036854775807) (b7:0≤x7∧x7≤18446744073709551615) (b8:(-9223372036854775808)≤x8∧x8≤9223372036854775807) (b9:(-9223372036854775808)≤x9∧x9≤9223372036854775807) (b10:0≤x10∧x10≤18446744073709551615) (b11:(-9223372036854775808)≤x11∧x11≤9223372036854775807) (b12:(-9223372036854775808)≤x12∧x12≤9223372036854775807) (b13:0≤x13∧x13≤18446744073709551615) (b14:(-9223372036854775808)≤x14∧x14≤9223372036854775807) (b15:(-9223372036854775808)≤x15∧x15≤9223372036854775807) (b16:0≤x16∧x16≤18446744073709551615) (b17:(-9223372036854775808)≤x17∧x17≤9223372036854775807) (b18:(-9223372036854775808)≤x18∧x18≤9223372036854775807) (b19:0≤x19∧x19≤18446744073709551615) (b20:(-9223372036854775808)≤x20∧x20≤9223372036854775807) (b21:(-9223372036854775808)≤x21∧x21≤9223372036854775807) (b22:0≤x22∧x22≤18446744073709551615) (b23:(-9223372036854775808)≤x23∧x23≤9223372036854775807) (b24:(-9223372036854775808)≤x24∧x24≤9223372036854775807) (b25:0≤x25∧x25≤18446744073709551615) (b26:(-9223372036854775808)≤x26∧x26≤9223372036854775807) (b27:(-9223372036854775808)≤x27∧x27≤9223372036854775807) (b28:0≤x28∧x28≤18446744073709551615) (b29:(-9223372036854775808)≤x29∧x29≤9223372036854775807) (b30:(-9223372036854775808)≤x30∧x30≤9223372036854775807) (b31:0≤x31∧x31≤18446744073709551615) (b32:(-9223372036854775808)≤x32∧x32≤9223372036854775807) (b33:(-9223372036854775808)≤x33∧x33≤9223372036854775807) (b34:0≤x34∧x34≤18446744073709551615) (b35:(-9223372036854775808)≤x35∧x35≤9223372036854775807) (b36:(-9223372036854775808)≤x36∧x36≤9223372036854775807) (b37:0≤x37∧x37≤18446744073709551615) (b38:(-9223372036854775808)≤x38∧x38≤9223372036854775807) (b39:(-9223372036854775808)≤x39∧x39≤9223372036854775807) (b40:0≤x40∧x40≤18446744073709551615) (b41:(-9223372036854775808)≤x41∧x41≤9223372036854775807) (b42:(-9223372036854775808)≤x42∧x42≤9223372036854775807) (b43:(-9223372036854775808)≤x43∧x43≤9223372036854775807) (b44:1≤x44∧x44≤256) (b45:1≤x45∧x45≤256) (b46:1≤x46∧x46≤65536) (hp:uZ.den G (dP (([x0,x1,x2,x3,x4,x5,x6,x7,x8,x9,x10,x11,x12,x13,x14,x15,x16,x17,x18,x19,x20,x21,x22,x23,x24,x25,x26,x27,x28,x29,x30,x31,x32,x33,x34,x35,x36,x37,x38,x39,x40,x41,x42,x43,x44,x45,x46]:List Int)++[C0]))=true):kU Try.prog G GB 12 aBZ (dP (([x0,x1,x2,x3,x4,x5,x6,x7,x8,x9,x10,x11,x12,x13,x14,x15,x16,x17,x18,x19,x20,x21,x22,x23,x24,x25,x26,x27,x28,x29,x30,x31,x32,x33,x34,x35,x36,x37,x38,x39,x40,x41,x42,x43,x44,x45,x46]:List Int)++[C0])):=by
 refine fT (lp:=iH) (run:=aBn Try.prog) (fun _=>rfl) fits (fX (by exact⟨b0,b1,b2,b3,b4,b5,b6,b7,b8,b9,b10,b11,b12,b13,b14,b15,b16,b17,b18,b19,b20,b21,b22,b23,b24,b25,b26,b27,b28,b29,b30,b31,b32,b33,b34,b35,b36,b37,b38,b39,b40,b41,b42,b43,b44,b45,b46,trivial⟩)) gM (fun X hX hG=>aC4 hX hG) (fun X hX hG fn c hf hc=>gB) rfl ?_
 clear b0 b1 b2 b3 b4 b5 b6 b7 b8 b9 b10 b11 b12 b13 b14 b15 b16 b17 b18 b19 b20 b21 b22 b23 b24 b25 b26 b27 b28 b29 b30 b31 b32 b33 b34 b35 b36 b37 b38 b39 b40 b41 b42 b43 b44 b45 b46
 refine aI dQ (fun h0=>?_) (fun h0=>?_)
 rotate_left
 ·skip
  refine aY ?_
  unfold dQ at h0;exact absurd hp (by unfold uZ;rw[h0];decide)
 refine aI dU (fun h1=>?_) (fun h1=>?_)
 ·skip
  refine aG aJt ?_
  unfold dQ at h0;unfold dU at h1;clear hp h0;simp only[cG];refine⟨?_,trivial⟩;show B.den G _ cY=_;unfold cY;rw[Bool.eq_false_iff];intro h;first|(simp only[nn,List.cons_append,List.nil_append,Bool.or_eq_true,aL,ne_eq]at *;omega)|(have hl:=Bool.eq_false_iff.1 h1;clear h1;refine hl ?_;clear hl;simp only[nn,List.cons_append,List.nil_append,Bool.or_eq_true,aL,ne_eq]at *;omega)
 refine aI eG (fun h2=>?_) (fun h2=>?_)
 ·skip
  refine aG aIc ?_
  unfold dQ at h0;unfold dU at h1;unfold eG at h2;clear hp h0;simp only[cG];refine⟨?_,trivial⟩;show B.den G _ cY=_;unfold cY;rw[Bool.eq_false_iff];intro h;first|(simp only[nn,List.cons_append,List.nil_append,Bool.or_eq_true,aL,ne_eq]at *;omega)|(have hl:=Bool.eq_false_iff.1 h2;clear h2;refine hl ?_;clear hl;simp only[nn,List.cons_append,List.nil_append,Bool.or_eq_true,aL,ne_eq]at *;omega)
 refine aI eR (fun h3=>?_) (fun h3=>?_)
 rotate_left
 ·skip
  refine aG aFM ?_
  unfold dQ at h0;unfold dU at h1;unfold eG at h2;unfold eR at h3;clear hp h0;simp only[cG];refine⟨?_,trivial⟩;show B.den G _ cY=_;unfold cY;rw[Bool.eq_false_iff];intro h;first|(simp only[nn,List.cons_append,List.nil_append,Bool.or_eq_true,aL,ne_eq]at *;omega)|(have hl:=Bool.eq_false_iff.1 h3;clear h3;refine hl ?_;clear hl;simp only[nn,List.cons_append,List.nil_append,Bool.or_eq_true,aL,ne_eq]at *;omega)
 refine aI fG (fun h4=>?_) (fun h4=>?_)
 rotate_left
 ·skip
  refine aG aFH ?_
  unfold dQ at h0;unfold dU at h1;unfold eG at h2;unfold eR at h3;unfold fG at h4;clear hp h0;simp only[cG];refine⟨?_,trivial⟩;show B.den G _ cY=_;unfold cY;rw[Bool.eq_false_iff];intro h;first|(simp only[nn,List.cons_append,List.nil_append,Bool.or_eq_true,aL,ne_eq]at *;omega)|(have hl:=Bool.eq_false_iff.1 h4;clear h4;refine hl ?_;clear hl;simp only[nn,List.cons_append,List.nil_append,Bool.or_eq_true,aL,ne_eq]at *;omega)
 refine aI gH (fun h5=>?_) (fun h5=>?_)
 rotate_left
 ·skip
  refine aG aFg ?_
  unfold dQ at h0;unfold dU at h1;unfold eG at h2;unfold eR at h3;unfold fG at h4;unfold gH at h5;clear hp h0;simp only[cG];refine⟨?_,trivial⟩;show B.den G _ cY=_;unfold cY;simp only[nn,List.cons_append,List.nil_append,Bool.or_eq_true,aL,ne_eq]at *;(try simp only[Bool.and_eq_true,decide_eq_true_eq]at *);omega
 refine aI iA (fun h6=>?_) (fun h6=>?_)
 rotate_left
 ·skip
  refine aG aEQ ?_
  unfold dQ at h0;unfold dU at h1;unfold eG at h2;unfold eR at h3;unfold fG at h4;unfold gH at h5;unfold iA at h6;clear hp h0;simp only[cG];refine⟨?_,trivial⟩;show B.den G _ cY=_;unfold cY;rw[Bool.eq_false_iff];intro h;first|(simp only[nn,List.cons_append,List.nil_append,Bool.or_eq_true,aL,ne_eq]at *;omega)|(have hl:=Bool.eq_false_iff.1 h6;clear h6;refine hl ?_;clear hl;simp only[nn,List.cons_append,List.nil_append,Bool.or_eq_true,aL,ne_eq]at *;omega)
 refine aI jG (fun h7=>?_) (fun h7=>?_)
 rotate_left
 ·skip
  refine aG aFU ?_
  unfold dQ at h0;unfold dU at h1;unfold eG at h2;unfold eR at h3;unfold fG at h4;unfold gH at h5;unfold iA at h6;unfold jG at h7;clear hp h0;simp only[cG];refine⟨?_,trivial⟩;show B.den G _ cY=_;unfold cY;simp only[nn,List.cons_append,List.nil_append,Bool.or_eq_true,aL,ne_eq]at *;(try simp only[Bool.and_eq_true,decide_eq_true_eq]at *);omega
 refine aI jY (fun h8=>?_) (fun h8=>?_)
 rotate_left
 ·skip
  refine aG aFf ?_
  unfold dQ at h0;unfold dU at h1;unfold eG at h2;unfold eR at h3;unfold fG at h4;unfold gH at h5;unfold iA at h6;unfold jG at h7;unfold jY at h8;clear hp h0;simp only[cG];refine⟨?_,trivial⟩;show B.den G _ cY=_;unfold cY;rw[Bool.eq_false_iff];intro h;first|(simp only[nn,List.cons_append,List.nil_append,Bool.or_eq_true,aL,ne_eq]at *;omega)|(have hl:=Bool.eq_false_iff.1 h8;clear h8;refine hl ?_;clear hl;simp only[nn,List.cons_append,List.nil_append,Bool.or_eq_true,aL,ne_eq]at *;omega)
 refine aI lI (fun h9=>?_) (fun h9=>?_)
 rotate_left
 ·skip
  refine aG aE4 ?_
  unfold dQ at h0;unfold dU at h1;unfold eG at h2;unfold eR at h3;unfold fG at h4;unfold gH at h5;unfold iA at h6;unfold jG at h7;unfold jY at h8;unfold lI at h9;clear hp h0;simp only[cG];refine⟨?_,trivial⟩;show B.den G _ cY=_;unfold cY;simp only[nn,List.cons_append,List.nil_append,Bool.or_eq_true,aL,ne_eq]at *;(try simp only[Bool.and_eq_true,decide_eq_true_eq]at *);omega
 refine aI lU (fun h10=>?_) (fun h10=>?_)
 ·skip
  refine aG aD6 ?_
  unfold dQ at h0;unfold dU at h1;unfold eG at h2;unfold eR at h3;unfold fG at h4;unfold gH at h5;unfold iA at h6;unfold jG at h7;unfold jY at h8;unfold lI at h9;unfold lU at h10;clear hp h0;simp only[cG];refine⟨?_,trivial⟩;show B.den G _ cY=_;unfold cY;simp only[nn,List.cons_append,List.nil_append,Bool.or_eq_true,aL,ne_eq]at *;(try simp only[Bool.and_eq_true,decide_eq_true_eq]at *);omega
 refine aG aEv ?_
 unfold dQ at h0;unfold dU at h1;unfold eG at h2;unfold eR at h3;unfold fG at h4;unfold gH at h5;unfold iA at h6;unfold jG at h7;unfold jY at h8;unfold lI at h9;unfold lU at h10;clear hp h0;simp only[cG];refine⟨?_,trivial⟩;show B.den G _ cY=_;unfold cY;rw[Bool.eq_false_iff];intro h;first|(simp only[nn,List.cons_append,List.nil_append,Bool.or_eq_true,aL,ne_eq]at *;omega)|(have hl:=Bool.eq_false_iff.1 h10;clear h10;refine hl ?_;clear hl;simp only[nn,List.cons_append,List.nil_append,Bool.or_eq_true,aL,ne_eq]at *;omega)
def vY:Ctx→List SV→aM→Res (SV × aM):=iM GB zG 1 uZ aBZ
theorem aL8 {X:Ctx} {ρ:Nat→Int} (hX:X.Ok ρ) (hG:X.G=G):jS Try.prog X ρ GB 12 vY:=by
 obtain⟨XG,XI,XV,XF⟩:=X
 simp only at hG
 subst hG
 refine fO hX ?_
 intro xs ls hw hl hp
 unfold zG at hw
 obtain⟨x0,y0,e0,b0,h0⟩:=aF hw
 obtain⟨x1,y1,e1,b1,h1⟩:=aF h0
 obtain⟨x2,y2,e2,b2,h2⟩:=aF h1
 obtain⟨x3,y3,e3,b3,h3⟩:=aF h2
 obtain⟨x4,y4,e4,b4,h4⟩:=aF h3
 obtain⟨x5,y5,e5,b5,h5⟩:=aF h4
 obtain⟨x6,y6,e6,b6,h6⟩:=aF h5
 obtain⟨x7,y7,e7,b7,h7⟩:=aF h6
 obtain⟨x8,y8,e8,b8,h8⟩:=aF h7
 obtain⟨x9,y9,e9,b9,h9⟩:=aF h8
 obtain⟨x10,y10,e10,b10,h10⟩:=aF h9
 obtain⟨x11,y11,e11,b11,h11⟩:=aF h10
 obtain⟨x12,y12,e12,b12,h12⟩:=aF h11
 obtain⟨x13,y13,e13,b13,h13⟩:=aF h12
 obtain⟨x14,y14,e14,b14,h14⟩:=aF h13
 obtain⟨x15,y15,e15,b15,h15⟩:=aF h14
 obtain⟨x16,y16,e16,b16,h16⟩:=aF h15
 obtain⟨x17,y17,e17,b17,h17⟩:=aF h16
 obtain⟨x18,y18,e18,b18,h18⟩:=aF h17
 obtain⟨x19,y19,e19,b19,h19⟩:=aF h18
 obtain⟨x20,y20,e20,b20,h20⟩:=aF h19
 obtain⟨x21,y21,e21,b21,h21⟩:=aF h20
 obtain⟨x22,y22,e22,b22,h22⟩:=aF h21
 obtain⟨x23,y23,e23,b23,h23⟩:=aF h22
 obtain⟨x24,y24,e24,b24,h24⟩:=aF h23
 obtain⟨x25,y25,e25,b25,h25⟩:=aF h24
 obtain⟨x26,y26,e26,b26,h26⟩:=aF h25
 obtain⟨x27,y27,e27,b27,h27⟩:=aF h26
 obtain⟨x28,y28,e28,b28,h28⟩:=aF h27
 obtain⟨x29,y29,e29,b29,h29⟩:=aF h28
 obtain⟨x30,y30,e30,b30,h30⟩:=aF h29
 obtain⟨x31,y31,e31,b31,h31⟩:=aF h30
 obtain⟨x32,y32,e32,b32,h32⟩:=aF h31
 obtain⟨x33,y33,e33,b33,h33⟩:=aF h32
 obtain⟨x34,y34,e34,b34,h34⟩:=aF h33
 obtain⟨x35,y35,e35,b35,h35⟩:=aF h34
 obtain⟨x36,y36,e36,b36,h36⟩:=aF h35
 obtain⟨x37,y37,e37,b37,h37⟩:=aF h36
 obtain⟨x38,y38,e38,b38,h38⟩:=aF h37
 obtain⟨x39,y39,e39,b39,h39⟩:=aF h38
 obtain⟨x40,y40,e40,b40,h40⟩:=aF h39
 obtain⟨x41,y41,e41,b41,h41⟩:=aF h40
 obtain⟨x42,y42,e42,b42,h42⟩:=aF h41
 obtain⟨x43,y43,e43,b43,h43⟩:=aF h42
 obtain⟨x44,y44,e44,b44,h44⟩:=aF h43
 obtain⟨x45,y45,e45,b45,h45⟩:=aF h44
 obtain⟨x46,y46,e46,b46,h46⟩:=aF h45
 have e47:=pG h46
 subst e47 e46 e45 e44 e43 e42 e41 e40 e39 e38 e37 e36 e35 e34 e33 e32 e31 e30 e29 e28 e27 e26 e25 e24 e23 e22 e21 e20 e19 e18 e17 e16 e15 e14 e13 e12 e11 e10 e9 e8 e7 e6 e5 e4 e3 e2 e1 e0
 obtain⟨l0,rfl⟩:=aDn hl
 exact aIp x0 x1 x2 x3 x4 x5 x6 x7 x8 x9 x10 x11 x12 x13 x14 x15 x16 x17 x18 x19 x20 x21 x22 x23 x24 x25 x26 x27 x28 x29 x30 x31 x32 x33 x34 x35 x36 x37 x38 x39 x40 x41 x42 x43 x44 x45 x46 l0 b0 b1 b2 b3 b4 b5 b6 b7 b8 b9 b10 b11 b12 b13 b14 b15 b16 b17 b18 b19 b20 b21 b22 b23 b24 b25 b26 b27 b28 b29 b30 b31 b32 b33 b34 b35 b36 b37 b38 b39 b40 b41 b42 b43 b44 b45 b46 hp
def aKa:aX:=lE 36 (aCU oZ vM) (lE 78 (aCU zM rJ) (eI 122 sC (eI 124 sH aLj)))
theorem aCT {X:Ctx} {ρ:Nat→Int} (hX:X.Ok ρ) (hG:X.G=G):gL Try.prog X ρ GB aKa:=jA (xW (aCL hX hG) (aKi hX hG)) (jA (xW (aOK hX hG) (aGD hX hG)) (bX (aQe hX hG) (bX (aQn hX hG) (aC4 hX hG))))
def xM:List (Int × Int):=[((-9223372036854775808),9223372036854775807),((-9223372036854775808),9223372036854775807),((-9223372036854775808),9223372036854775807),((-9223372036854775808),9223372036854775807),((-9223372036854775808),9223372036854775807),((-9223372036854775808),9223372036854775807),((-2147483648),2147483647),((-2147483648),2147483647),((-2147483648),2147483647),((-2147483648),2147483647),((-2147483648),2147483647),((-2147483648),2147483647),((-9223372036854775808),9223372036854775807),(0,18446744073709551615),((-9223372036854775808),9223372036854775807),((-9223372036854775808),9223372036854775807),(0,18446744073709551615),((-9223372036854775808),9223372036854775807),((-9223372036854775808),9223372036854775807),(0,18446744073709551615),((-9223372036854775808),9223372036854775807),((-9223372036854775808),9223372036854775807),(0,18446744073709551615),((-9223372036854775808),9223372036854775807),((-9223372036854775808),9223372036854775807),(0,18446744073709551615),((-9223372036854775808),9223372036854775807),((-9223372036854775808),9223372036854775807),(0,18446744073709551615),((-9223372036854775808),9223372036854775807),((-9223372036854775808),9223372036854775807),(0,18446744073709551615),((-9223372036854775808),9223372036854775807),((-9223372036854775808),9223372036854775807),(0,18446744073709551615),((-9223372036854775808),9223372036854775807),((-9223372036854775808),9223372036854775807),(0,18446744073709551615),((-9223372036854775808),9223372036854775807),((-9223372036854775808),9223372036854775807),(0,18446744073709551615),((-9223372036854775808),9223372036854775807),((-9223372036854775808),9223372036854775807),(0,18446744073709551615),((-9223372036854775808),9223372036854775807),((-9223372036854775808),9223372036854775807),(0,18446744073709551615),((-9223372036854775808),9223372036854775807),((-9223372036854775808),9223372036854775807),(0,18446744073709551615),((-9223372036854775808),9223372036854775807),((-9223372036854775808),9223372036854775807),(0,18446744073709551615),((-9223372036854775808),9223372036854775807),((-9223372036854775808),9223372036854775807),(0,18446744073709551615),((-9223372036854775808),9223372036854775807),((-9223372036854775808),9223372036854775807),(0,18446744073709551615),((-9223372036854775808),9223372036854775807),((-9223372036854775808),9223372036854775807),((-9223372036854775808),9223372036854775807),(1,256),(1,256),(1,65536)]
def bO:B:=(.and (.and (.cmp .le (.lit (-671088640)) (.var 0)) (.and (.cmp .le (.var 0) (.lit 671088640)) (.and (.cmp .le (.lit (-671088640)) (.var 1)) (.and (.cmp .le (.var 1) (.lit 671088640)) (.and (.cmp .le (.lit (-671088640)) (.var 2)) (.and (.cmp .le (.var 2) (.lit 671088640)) (.and (.cmp .le (.lit (-671088640)) (.var 3)) (.and (.cmp .le (.var 3) (.lit 671088640)) (.and (.cmp .le (.lit (-671088640)) (.var 4)) (.and (.cmp .le (.var 4) (.lit 671088640)) (.and (.cmp .le (.lit (-671088640)) (.var 5)) (.cmp .le (.var 5) (.lit 671088640))))))))))))) (.and (.cmp .le (.lit 0) (.var 6)) (.and (.cmp .le (.var 6) (.lit 65536)) (.and (.cmp .le (.lit 0) (.var 7)) (.and (.cmp .le (.var 7) (.lit 65536)) (.and (.cmp .le (.lit 0) (.var 8)) (.and (.cmp .le (.var 8) (.lit 65536)) (.and (.cmp .le (.lit 0) (.var 9)) (.and (.cmp .le (.var 9) (.lit 65536)) (.and (.cmp .le (.lit 0) (.var 10)) (.and (.cmp .le (.var 10) (.lit 65536)) (.and (.cmp .le (.lit 0) (.var 11)) (.and (.cmp .le (.var 11) (.lit 65536)) (.and (.cmp .le (.lit 1) (.var 60)) (.and (.cmp .le (.var 60) (.lit 4)) (.and (.or (.cmp .le (.var 60) (.lit 0)) (.and (.cmp .le (.lit (-1125899906842624)) (.op .add (.op .mul (.var 12) (.lit 18446744073709551616)) (.var 13))) (.and (.cmp .le (.op .add (.op .mul (.var 12) (.lit 18446744073709551616)) (.var 13)) (.lit 1125899906842624)) (.and (.cmp .le (.lit (-1125899906842624)) (.op .add (.op .mul (.var 24) (.lit 18446744073709551616)) (.var 25))) (.and (.cmp .le (.op .add (.op .mul (.var 24) (.lit 18446744073709551616)) (.var 25)) (.lit 1125899906842624)) (.and (.cmp .le (.lit (-1125899906842624)) (.op .add (.op .mul (.var 36) (.lit 18446744073709551616)) (.var 37))) (.and (.cmp .le (.op .add (.op .mul (.var 36) (.lit 18446744073709551616)) (.var 37)) (.lit 1125899906842624)) (.and (.cmp .le (.lit (-1125899906842624)) (.op .add (.op .mul (.var 48) (.lit 18446744073709551616)) (.var 49))) (.and (.cmp .le (.op .add (.op .mul (.var 48) (.lit 18446744073709551616)) (.var 49)) (.lit 1125899906842624)) (.and (.cmp .le (.lit 1) (.var 14)) (.and (.cmp .le (.var 14) (.lit 65535)) (.and (.cmp .eq (.var 26) (.var 14)) (.and (.cmp .eq (.var 38) (.var 14)) (.cmp .eq (.var 50) (.var 14))))))))))))))) (.and (.or (.cmp .le (.var 60) (.lit 1)) (.and (.cmp .le (.lit (-1125899906842624)) (.op .add (.op .mul (.var 15) (.lit 18446744073709551616)) (.var 16))) (.and (.cmp .le (.op .add (.op .mul (.var 15) (.lit 18446744073709551616)) (.var 16)) (.lit 1125899906842624)) (.and (.cmp .le (.lit (-1125899906842624)) (.op .add (.op .mul (.var 27) (.lit 18446744073709551616)) (.var 28))) (.and (.cmp .le (.op .add (.op .mul (.var 27) (.lit 18446744073709551616)) (.var 28)) (.lit 1125899906842624)) (.and (.cmp .le (.lit (-1125899906842624)) (.op .add (.op .mul (.var 39) (.lit 18446744073709551616)) (.var 40))) (.and (.cmp .le (.op .add (.op .mul (.var 39) (.lit 18446744073709551616)) (.var 40)) (.lit 1125899906842624)) (.and (.cmp .le (.lit (-1125899906842624)) (.op .add (.op .mul (.var 51) (.lit 18446744073709551616)) (.var 52))) (.and (.cmp .le (.op .add (.op .mul (.var 51) (.lit 18446744073709551616)) (.var 52)) (.lit 1125899906842624)) (.and (.cmp .le (.lit 1) (.var 17)) (.and (.cmp .le (.var 17) (.lit 65535)) (.and (.cmp .eq (.var 29) (.var 17)) (.and (.cmp .eq (.var 41) (.var 17)) (.cmp .eq (.var 53) (.var 17))))))))))))))) (.and (.or (.cmp .le (.var 60) (.lit 2)) (.and (.cmp .le (.lit (-1125899906842624)) (.op .add (.op .mul (.var 18) (.lit 18446744073709551616)) (.var 19))) (.and (.cmp .le (.op .add (.op .mul (.var 18) (.lit 18446744073709551616)) (.var 19)) (.lit 1125899906842624)) (.and (.cmp .le (.lit (-1125899906842624)) (.op .add (.op .mul (.var 30) (.lit 18446744073709551616)) (.var 31))) (.and (.cmp .le (.op .add (.op .mul (.var 30) (.lit 18446744073709551616)) (.var 31)) (.lit 1125899906842624)) (.and (.cmp .le (.lit (-1125899906842624)) (.op .add (.op .mul (.var 42) (.lit 18446744073709551616)) (.var 43))) (.and (.cmp .le (.op .add (.op .mul (.var 42) (.lit 18446744073709551616)) (.var 43)) (.lit 1125899906842624)) (.and (.cmp .le (.lit (-1125899906842624)) (.op .add (.op .mul (.var 54) (.lit 18446744073709551616)) (.var 55))) (.and (.cmp .le (.op .add (.op .mul (.var 54) (.lit 18446744073709551616)) (.var 55)) (.lit 1125899906842624)) (.and (.cmp .le (.lit 1) (.var 20)) (.and (.cmp .le (.var 20) (.lit 65535)) (.and (.cmp .eq (.var 32) (.var 20)) (.and (.cmp .eq (.var 44) (.var 20)) (.cmp .eq (.var 56) (.var 20))))))))))))))) (.or (.cmp .le (.var 60) (.lit 3)) (.and (.cmp .le (.lit (-1125899906842624)) (.op .add (.op .mul (.var 21) (.lit 18446744073709551616)) (.var 22))) (.and (.cmp .le (.op .add (.op .mul (.var 21) (.lit 18446744073709551616)) (.var 22)) (.lit 1125899906842624)) (.and (.cmp .le (.lit (-1125899906842624)) (.op .add (.op .mul (.var 33) (.lit 18446744073709551616)) (.var 34))) (.and (.cmp .le (.op .add (.op .mul (.var 33) (.lit 18446744073709551616)) (.var 34)) (.lit 1125899906842624)) (.and (.cmp .le (.lit (-1125899906842624)) (.op .add (.op .mul (.var 45) (.lit 18446744073709551616)) (.var 46))) (.and (.cmp .le (.op .add (.op .mul (.var 45) (.lit 18446744073709551616)) (.var 46)) (.lit 1125899906842624)) (.and (.cmp .le (.lit (-1125899906842624)) (.op .add (.op .mul (.var 57) (.lit 18446744073709551616)) (.var 58))) (.and (.cmp .le (.op .add (.op .mul (.var 57) (.lit 18446744073709551616)) (.var 58)) (.lit 1125899906842624)) (.and (.cmp .le (.lit 1) (.var 23)) (.and (.cmp .le (.var 23) (.lit 65535)) (.and (.cmp .eq (.var 35) (.var 23)) (.and (.cmp .eq (.var 47) (.var 23)) (.cmp .eq (.var 59) (.var 23)))))))))))))))))))))))))))))))))
def uJ:B:=(.cmp .eq (.var 64) (.op .mul (.var 62) (.var 63)))
def aCj:FunS:=⟨[(.ptr 1 0),(.agg [(.int .i64 (.var 0)),(.int .i64 (.var 1)),(.int .i64 (.var 2)),(.int .i64 (.var 3)),(.int .i64 (.var 4)),(.int .i64 (.var 5)),(.int .i32 (.var 6)),(.int .i32 (.var 7)),(.int .i32 (.var 8)),(.int .i32 (.var 9)),(.int .i32 (.var 10)),(.int .i32 (.var 11))]),(.agg [(.int .i64 (.var 12)),(.int .u64 (.var 13)),(.int .i64 (.var 14)),(.int .i64 (.var 15)),(.int .u64 (.var 16)),(.int .i64 (.var 17)),(.int .i64 (.var 18)),(.int .u64 (.var 19)),(.int .i64 (.var 20)),(.int .i64 (.var 21)),(.int .u64 (.var 22)),(.int .i64 (.var 23)),(.int .i64 (.var 24)),(.int .u64 (.var 25)),(.int .i64 (.var 26)),(.int .i64 (.var 27)),(.int .u64 (.var 28)),(.int .i64 (.var 29)),(.int .i64 (.var 30)),(.int .u64 (.var 31)),(.int .i64 (.var 32)),(.int .i64 (.var 33)),(.int .u64 (.var 34)),(.int .i64 (.var 35)),(.int .i64 (.var 36)),(.int .u64 (.var 37)),(.int .i64 (.var 38)),(.int .i64 (.var 39)),(.int .u64 (.var 40)),(.int .i64 (.var 41)),(.int .i64 (.var 42)),(.int .u64 (.var 43)),(.int .i64 (.var 44)),(.int .i64 (.var 45)),(.int .u64 (.var 46)),(.int .i64 (.var 47)),(.int .i64 (.var 48)),(.int .u64 (.var 49)),(.int .i64 (.var 50)),(.int .i64 (.var 51)),(.int .u64 (.var 52)),(.int .i64 (.var 53)),(.int .i64 (.var 54)),(.int .u64 (.var 55)),(.int .i64 (.var 56)),(.int .i64 (.var 57)),(.int .u64 (.var 58)),(.int .i64 (.var 59))]),(.int .i64 (.var 60)),(.int .i64 (.var 61))],[some ([.vec [.bool,.int .i64,.int .i32,.int .i32,.int .i32,.int .i32,.int .i32,.int .i32] (.var 65) (.var 64) true],aZ+46),some ([(.int .i64 (.var 62)),(.int .i64 (.var 63)),(.own 0 (.var 64) (some (.var 64)))],78)],bO,(.int .i64 (.lit 0)),[some ([.vec [.bool,.int .i64,.int .i32,.int .i32,.int .i32,.int .i32,.int .i32,.int .i32] (.app 79 (.cons (.var 0) (.cons (.var 1) (.cons (.var 2) (.cons (.var 3) (.cons (.var 4) (.cons (.var 5) (.cons (.var 6) (.cons (.var 7) (.cons (.var 8) (.cons (.var 9) (.cons (.var 10) (.cons (.var 11) (.cons (.op .add (.op .mul (.var 12) (.lit 18446744073709551616)) (.var 13)) (.cons (.op .add (.op .mul (.var 15) (.lit 18446744073709551616)) (.var 16)) (.cons (.op .add (.op .mul (.var 18) (.lit 18446744073709551616)) (.var 19)) (.cons (.op .add (.op .mul (.var 21) (.lit 18446744073709551616)) (.var 22)) (.cons (.op .add (.op .mul (.var 24) (.lit 18446744073709551616)) (.var 25)) (.cons (.op .add (.op .mul (.var 27) (.lit 18446744073709551616)) (.var 28)) (.cons (.op .add (.op .mul (.var 30) (.lit 18446744073709551616)) (.var 31)) (.cons (.op .add (.op .mul (.var 33) (.lit 18446744073709551616)) (.var 34)) (.cons (.op .add (.op .mul (.var 36) (.lit 18446744073709551616)) (.var 37)) (.cons (.op .add (.op .mul (.var 39) (.lit 18446744073709551616)) (.var 40)) (.cons (.op .add (.op .mul (.var 42) (.lit 18446744073709551616)) (.var 43)) (.cons (.op .add (.op .mul (.var 45) (.lit 18446744073709551616)) (.var 46)) (.cons (.op .add (.op .mul (.var 48) (.lit 18446744073709551616)) (.var 49)) (.cons (.op .add (.op .mul (.var 51) (.lit 18446744073709551616)) (.var 52)) (.cons (.op .add (.op .mul (.var 54) (.lit 18446744073709551616)) (.var 55)) (.cons (.op .add (.op .mul (.var 57) (.lit 18446744073709551616)) (.var 58)) (.cons (.var 14) (.cons (.var 17) (.cons (.var 20) (.cons (.var 23) (.cons (.var 60) (.cons (.var 61) (.cons (.var 62) (.cons (.var 63) (.cons (.var 65) (.cons (.op .max (.op .max (.lit 0) (.op .fdiv (.op .sub (.op .add (.op .sub (.op .min (.op .min (.var 1) (.var 3)) (.var 5)) (.lit 128)) (.lit 256)) (.lit 1)) (.lit 256))) (.op .min (.var 63) (.op .add (.op .fdiv (.op .sub (.op .max (.op .max (.var 1) (.var 3)) (.var 5)) (.lit 128)) (.lit 256)) (.lit 1)))) .nil))))))))))))))))))))))))))))))))))))))) (.var 64) true],aZ+46),some ([(.int .i64 (.var 62)),(.int .i64 (.var 63)),(.own 0 (.var 64) (some (.var 64)))],78)],(.int .i64 (.lit 1)),[some ([.vec [.bool,.int .i64,.int .i32,.int .i32,.int .i32,.int .i32,.int .i32,.int .i32] (.var 65) (.var 64) true],aZ+46),some ([(.int .i64 (.var 62)),(.int .i64 (.var 63)),(.own 0 (.var 64) (some (.var 64)))],78)]⟩
def aA4 (P:Program) (fs:List B):Res SV:=bY G GI xM fs fun X=>lX P X GB aKa iH 4000 26 aCj
end Go.Proofs.Ytoiecphddchknaa
