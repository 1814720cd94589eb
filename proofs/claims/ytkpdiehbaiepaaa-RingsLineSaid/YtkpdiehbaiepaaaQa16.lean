/- What is proved: the border bDq,as it is told. No condition but the numbers' own bounds. -/
import Derived.Test.YtkpdiehbaiepaaaQNn
import Derived.Test.YtkpdiehbaiepaaaQa14
import Derived.Test.YtkpdiehbaiepaaaQa15
import Derived.Test.YtkpdiehbaiepaaaQg6
import Derived.Test.YtkpdiehbaiepaaaQg4
import Derived.Test.YtkpdiehbaiepaaaQa1
import Derived.Test.YtkpdiehbaiepaaaQg5
set_option linter.unusedSimpArgs false
set_option linter.unusedVariables false
namespace Go.Proofs.Ytkpdiehbaiepaaa
open Go Go.RowKit Sx Wi
set_option maxRecDepth 100000 in
theorem aOh (x0 x1 x2 x3 x4 x5 x6 x7 x8 x9 x10 x11 x12 x13 x14 x15 x16 x17 x18 x19 x20 x21 x22 x23 x24 x25 x26 x27 x28 x29 x30 x31 x32:Int):fN Try.prog G (bX GB) (dX (cV Try.prog 11) 1) aCv (bT ([x0,x1,x2,x3,x4,x5,x6,x7,x8,x9,x10,x11,x12,x13,x14,x15,x16,x17,x18,x19,x20,x21,x22,x23,x24,x25,x26,x27,x28,x29,x30,x31,x32]:List Int)):=by
 intro hw _
 have hb:eG [zzJ,zzJ,zzJ,zzJ,zzJ,zzJ,zzJ,zzJ,zzJ,zzJ,zzJ,zzJ,zzJ,zzJ,zzJ,zzJ,zzJ,zzJ,zzJ,zzJ,zzJ,zzJ,zzJ,zzJ,zzJ,zzJ,zzJ,zzJ,zzJ,zzJ,zzJ,zzJ,(1,6),(0,64),(0,256)] (([x0,x1,x2,x3,x4,x5,x6,x7,x8,x9,x10,x11,x12,x13,x14,x15,x16,x17,x18,x19,x20,x21,x22,x23,x24,x25,x26,x27,x28,x29,x30,x31,x32]:List Int)++[0,0]):=hw
 simp only[List.cons_append,List.nil_append]at hb
 obtain⟨b0,b1,b2,b3,b4,b5,b6,b7,b8,b9,b10,b11,b12,b13,b14,b15,b16,b17,b18,b19,b20,b21,b22,b23,b24,b25,b26,b27,b28,b29,b30,b31,b32,b33,_⟩:=hb
 have e:fJ G (bT ([x0,x1,x2,x3,x4,x5,x6,x7,x8,x9,x10,x11,x12,x13,x14,x15,x16,x17,x18,x19,x20,x21,x22,x23,x24,x25,x26,x27,x28,x29,x30,x31,x32]:List Int)) aCv.es=aW 0 x0 x1 x2 x3 x4 x5 x6 x7 x8 x9 x10 x11 x12 x13 x14 x15 x16 x17 x18 x19 x20 x21 x22 x23 x24 x25 x26 x27 x28 x29 x30 x31 x32 0:=by
  rw[eD];unfold aW;rw[fA,bZ,show ((0*(p2 x32).toNat:Nat):Int)=0 by have:=eB (e:=x32) (by omega) (by omega);show _=0;omega];rfl
 rw[e]
 have hp:=eB (e:=x32) (by omega) (by omega)
 exact⟨(p2 x32).toNat+1,dZ (ι:=Nat) (ρ:=aW 0 x0 x1 x2 x3 x4 x5 x6 x7 x8 x9 x10 x11 x12 x13 x14 x15 x16 x17 x18 x19 x20 x21 x22 x23 x24 x25 x26 x27 x28 x29 x30 x31 x32) (ρT:=bT ([x0,x1,x2,x3,x4,x5,x6,x7,x8,x9,x10,x11,x12,x13,x14,x15,x16,x17,x18,x19,x20,x21,x22,x23,x24,x25,x26,x27,x28,x29,x30,x31,x32]:List Int)) (m:=fun a=>(p2 x32).toNat-a) (Good:=fun a=>(a:Int)≤p2 x32) (run:=sE Try.prog) (fun _=>rfl) fits rfl dY (fun a ha=>gR 0 x0 x1 x2 x3 x4 x5 x6 x7 x8 x9 x10 x11 x12 x13 x14 x15 x16 x17 x18 x19 x20 x21 x22 x23 x24 x25 x26 x27 x28 x29 x30 x31 x32 b0 b1 b2 b3 b4 b5 b6 b7 b8 b9 b10 b11 b12 b13 b14 b15 b16 b17 b18 b19 b20 b21 b22 b23 b24 b25 b26 b27 b28 b29 b30 b31 b32 a (by decide) ha) (fun _ _ X hX hG=>gL hX hG) (fun _ _ X hX hG=>dW) (fun a ha=>aNY x0 x1 x2 x3 x4 x5 x6 x7 x8 x9 x10 x11 x12 x13 x14 x15 x16 x17 x18 x19 x20 x21 x22 x23 x24 x25 x26 x27 x28 x29 x30 x31 x32 b0 b1 b2 b3 b4 b5 b6 b7 b8 b9 b10 b11 b12 b13 b14 b15 b16 b17 b18 b19 b20 b21 b22 b23 b24 b25 b26 b27 b28 b29 b30 b31 b32 a ha) (by decide) _ 0 (by show ((0:Nat):Int)≤p2 x32;omega) (by show (p2 x32).toNat-0<_;omega)⟩
set_option maxRecDepth 100000 in
theorem aMP (x0 x1 x2 x3 x4 x5 x6 x7 x8 x9 x10 x11 x12 x13 x14 x15 x16 x17 x18 x19 x20 x21 x22 x23 x24 x25 x26 x27 x28 x29 x30 x31 x32:Int):fN Try.prog G (bX GB) (dX (cV Try.prog 11) 1) aCM (bT ([x0,x1,x2,x3,x4,x5,x6,x7,x8,x9,x10,x11,x12,x13,x14,x15,x16,x17,x18,x19,x20,x21,x22,x23,x24,x25,x26,x27,x28,x29,x30,x31,x32]:List Int)):=by
 intro hw _
 have hb:eG [zzJ,zzJ,zzJ,zzJ,zzJ,zzJ,zzJ,zzJ,zzJ,zzJ,zzJ,zzJ,zzJ,zzJ,zzJ,zzJ,zzJ,zzJ,zzJ,zzJ,zzJ,zzJ,zzJ,zzJ,zzJ,zzJ,zzJ,zzJ,zzJ,zzJ,zzJ,zzJ,(1,6),(0,64),(0,256)] (([x0,x1,x2,x3,x4,x5,x6,x7,x8,x9,x10,x11,x12,x13,x14,x15,x16,x17,x18,x19,x20,x21,x22,x23,x24,x25,x26,x27,x28,x29,x30,x31,x32]:List Int)++[0,1*2 ^ x32.toNat]):=hw
 simp only[List.cons_append,List.nil_append]at hb
 obtain⟨b0,b1,b2,b3,b4,b5,b6,b7,b8,b9,b10,b11,b12,b13,b14,b15,b16,b17,b18,b19,b20,b21,b22,b23,b24,b25,b26,b27,b28,b29,b30,b31,b32,b33,_⟩:=hb
 have e:fJ G (bT ([x0,x1,x2,x3,x4,x5,x6,x7,x8,x9,x10,x11,x12,x13,x14,x15,x16,x17,x18,x19,x20,x21,x22,x23,x24,x25,x26,x27,x28,x29,x30,x31,x32]:List Int)) aCM.es=aW 1 x0 x1 x2 x3 x4 x5 x6 x7 x8 x9 x10 x11 x12 x13 x14 x15 x16 x17 x18 x19 x20 x21 x22 x23 x24 x25 x26 x27 x28 x29 x30 x31 x32 0:=by
  rw[eD];unfold aW;rw[fA,bZ,show ((1*(p2 x32).toNat:Nat):Int)=1*2 ^ x32.toNat by have:=eB (e:=x32) (by omega) (by omega);show _=p2 x32;omega];rfl
 rw[e]
 have hp:=eB (e:=x32) (by omega) (by omega)
 exact⟨(p2 x32).toNat+1,dZ (ι:=Nat) (ρ:=aW 1 x0 x1 x2 x3 x4 x5 x6 x7 x8 x9 x10 x11 x12 x13 x14 x15 x16 x17 x18 x19 x20 x21 x22 x23 x24 x25 x26 x27 x28 x29 x30 x31 x32) (ρT:=bT ([x0,x1,x2,x3,x4,x5,x6,x7,x8,x9,x10,x11,x12,x13,x14,x15,x16,x17,x18,x19,x20,x21,x22,x23,x24,x25,x26,x27,x28,x29,x30,x31,x32]:List Int)) (m:=fun a=>(p2 x32).toNat-a) (Good:=fun a=>(a:Int)≤p2 x32) (run:=sL Try.prog) (fun _=>rfl) fits rfl dY (fun a ha=>gR 1 x0 x1 x2 x3 x4 x5 x6 x7 x8 x9 x10 x11 x12 x13 x14 x15 x16 x17 x18 x19 x20 x21 x22 x23 x24 x25 x26 x27 x28 x29 x30 x31 x32 b0 b1 b2 b3 b4 b5 b6 b7 b8 b9 b10 b11 b12 b13 b14 b15 b16 b17 b18 b19 b20 b21 b22 b23 b24 b25 b26 b27 b28 b29 b30 b31 b32 a (by decide) ha) (fun _ _ X hX hG=>gL hX hG) (fun _ _ X hX hG=>dW) (fun a ha=>aNZ x0 x1 x2 x3 x4 x5 x6 x7 x8 x9 x10 x11 x12 x13 x14 x15 x16 x17 x18 x19 x20 x21 x22 x23 x24 x25 x26 x27 x28 x29 x30 x31 x32 b0 b1 b2 b3 b4 b5 b6 b7 b8 b9 b10 b11 b12 b13 b14 b15 b16 b17 b18 b19 b20 b21 b22 b23 b24 b25 b26 b27 b28 b29 b30 b31 b32 a ha) (by decide) _ 0 (by show ((0:Nat):Int)≤p2 x32;omega) (by show (p2 x32).toNat-0<_;omega)⟩
set_option maxRecDepth 100000 in
theorem aNm (x0 x1 x2 x3 x4 x5 x6 x7 x8 x9 x10 x11 x12 x13 x14 x15 x16 x17 x18 x19 x20 x21 x22 x23 x24 x25 x26 x27 x28 x29 x30 x31 x32:Int):fN Try.prog G (bX GB) (dX (cV Try.prog 11) 1) aCU (bT ([x0,x1,x2,x3,x4,x5,x6,x7,x8,x9,x10,x11,x12,x13,x14,x15,x16,x17,x18,x19,x20,x21,x22,x23,x24,x25,x26,x27,x28,x29,x30,x31,x32]:List Int)):=by
 intro hw _
 have hb:eG [zzJ,zzJ,zzJ,zzJ,zzJ,zzJ,zzJ,zzJ,zzJ,zzJ,zzJ,zzJ,zzJ,zzJ,zzJ,zzJ,zzJ,zzJ,zzJ,zzJ,zzJ,zzJ,zzJ,zzJ,zzJ,zzJ,zzJ,zzJ,zzJ,zzJ,zzJ,zzJ,(1,6),(0,64),(0,256)] (([x0,x1,x2,x3,x4,x5,x6,x7,x8,x9,x10,x11,x12,x13,x14,x15,x16,x17,x18,x19,x20,x21,x22,x23,x24,x25,x26,x27,x28,x29,x30,x31,x32]:List Int)++[0,2*(1*2 ^ x32.toNat)]):=hw
 simp only[List.cons_append,List.nil_append]at hb
 obtain⟨b0,b1,b2,b3,b4,b5,b6,b7,b8,b9,b10,b11,b12,b13,b14,b15,b16,b17,b18,b19,b20,b21,b22,b23,b24,b25,b26,b27,b28,b29,b30,b31,b32,b33,_⟩:=hb
 have e:fJ G (bT ([x0,x1,x2,x3,x4,x5,x6,x7,x8,x9,x10,x11,x12,x13,x14,x15,x16,x17,x18,x19,x20,x21,x22,x23,x24,x25,x26,x27,x28,x29,x30,x31,x32]:List Int)) aCU.es=aW 2 x0 x1 x2 x3 x4 x5 x6 x7 x8 x9 x10 x11 x12 x13 x14 x15 x16 x17 x18 x19 x20 x21 x22 x23 x24 x25 x26 x27 x28 x29 x30 x31 x32 0:=by
  rw[eD];unfold aW;rw[fA,bZ,show ((2*(p2 x32).toNat:Nat):Int)=2*(1*2 ^ x32.toNat)by have:=eB (e:=x32) (by omega) (by omega);show _=2*(p2 x32);omega];rfl
 rw[e]
 have hp:=eB (e:=x32) (by omega) (by omega)
 exact⟨(p2 x32).toNat+1,dZ (ι:=Nat) (ρ:=aW 2 x0 x1 x2 x3 x4 x5 x6 x7 x8 x9 x10 x11 x12 x13 x14 x15 x16 x17 x18 x19 x20 x21 x22 x23 x24 x25 x26 x27 x28 x29 x30 x31 x32) (ρT:=bT ([x0,x1,x2,x3,x4,x5,x6,x7,x8,x9,x10,x11,x12,x13,x14,x15,x16,x17,x18,x19,x20,x21,x22,x23,x24,x25,x26,x27,x28,x29,x30,x31,x32]:List Int)) (m:=fun a=>(p2 x32).toNat-a) (Good:=fun a=>(a:Int)≤p2 x32) (run:=sV Try.prog) (fun _=>rfl) fits rfl dY (fun a ha=>gR 2 x0 x1 x2 x3 x4 x5 x6 x7 x8 x9 x10 x11 x12 x13 x14 x15 x16 x17 x18 x19 x20 x21 x22 x23 x24 x25 x26 x27 x28 x29 x30 x31 x32 b0 b1 b2 b3 b4 b5 b6 b7 b8 b9 b10 b11 b12 b13 b14 b15 b16 b17 b18 b19 b20 b21 b22 b23 b24 b25 b26 b27 b28 b29 b30 b31 b32 a (by decide) ha) (fun _ _ X hX hG=>gL hX hG) (fun _ _ X hX hG=>dW) (fun a ha=>aMN x0 x1 x2 x3 x4 x5 x6 x7 x8 x9 x10 x11 x12 x13 x14 x15 x16 x17 x18 x19 x20 x21 x22 x23 x24 x25 x26 x27 x28 x29 x30 x31 x32 b0 b1 b2 b3 b4 b5 b6 b7 b8 b9 b10 b11 b12 b13 b14 b15 b16 b17 b18 b19 b20 b21 b22 b23 b24 b25 b26 b27 b28 b29 b30 b31 b32 a ha) (by decide) _ 0 (by show ((0:Nat):Int)≤p2 x32;omega) (by show (p2 x32).toNat-0<_;omega)⟩
set_option maxRecDepth 100000 in
theorem aN1 (x0 x1 x2 x3 x4 x5 x6 x7 x8 x9 x10 x11 x12 x13 x14 x15 x16 x17 x18 x19 x20 x21 x22 x23 x24 x25 x26 x27 x28 x29 x30 x31 x32:Int):fN Try.prog G (bX GB) (dX (cV Try.prog 11) 1) aCA (bT ([x0,x1,x2,x3,x4,x5,x6,x7,x8,x9,x10,x11,x12,x13,x14,x15,x16,x17,x18,x19,x20,x21,x22,x23,x24,x25,x26,x27,x28,x29,x30,x31,x32]:List Int)):=by
 intro hw _
 have hb:eG [zzJ,zzJ,zzJ,zzJ,zzJ,zzJ,zzJ,zzJ,zzJ,zzJ,zzJ,zzJ,zzJ,zzJ,zzJ,zzJ,zzJ,zzJ,zzJ,zzJ,zzJ,zzJ,zzJ,zzJ,zzJ,zzJ,zzJ,zzJ,zzJ,zzJ,zzJ,zzJ,(1,6),(0,64),(0,256)] (([x0,x1,x2,x3,x4,x5,x6,x7,x8,x9,x10,x11,x12,x13,x14,x15,x16,x17,x18,x19,x20,x21,x22,x23,x24,x25,x26,x27,x28,x29,x30,x31,x32]:List Int)++[0,3*(1*2 ^ x32.toNat)]):=hw
 simp only[List.cons_append,List.nil_append]at hb
 obtain⟨b0,b1,b2,b3,b4,b5,b6,b7,b8,b9,b10,b11,b12,b13,b14,b15,b16,b17,b18,b19,b20,b21,b22,b23,b24,b25,b26,b27,b28,b29,b30,b31,b32,b33,_⟩:=hb
 have e:fJ G (bT ([x0,x1,x2,x3,x4,x5,x6,x7,x8,x9,x10,x11,x12,x13,x14,x15,x16,x17,x18,x19,x20,x21,x22,x23,x24,x25,x26,x27,x28,x29,x30,x31,x32]:List Int)) aCA.es=aW 3 x0 x1 x2 x3 x4 x5 x6 x7 x8 x9 x10 x11 x12 x13 x14 x15 x16 x17 x18 x19 x20 x21 x22 x23 x24 x25 x26 x27 x28 x29 x30 x31 x32 0:=by
  rw[eD];unfold aW;rw[fA,bZ,show ((3*(p2 x32).toNat:Nat):Int)=3*(1*2 ^ x32.toNat)by have:=eB (e:=x32) (by omega) (by omega);show _=3*(p2 x32);omega];rfl
 rw[e]
 have hp:=eB (e:=x32) (by omega) (by omega)
 exact⟨(p2 x32).toNat+1,dZ (ι:=Nat) (ρ:=aW 3 x0 x1 x2 x3 x4 x5 x6 x7 x8 x9 x10 x11 x12 x13 x14 x15 x16 x17 x18 x19 x20 x21 x22 x23 x24 x25 x26 x27 x28 x29 x30 x31 x32) (ρT:=bT ([x0,x1,x2,x3,x4,x5,x6,x7,x8,x9,x10,x11,x12,x13,x14,x15,x16,x17,x18,x19,x20,x21,x22,x23,x24,x25,x26,x27,x28,x29,x30,x31,x32]:List Int)) (m:=fun a=>(p2 x32).toNat-a) (Good:=fun a=>(a:Int)≤p2 x32) (run:=tE Try.prog) (fun _=>rfl) fits rfl dY (fun a ha=>gR 3 x0 x1 x2 x3 x4 x5 x6 x7 x8 x9 x10 x11 x12 x13 x14 x15 x16 x17 x18 x19 x20 x21 x22 x23 x24 x25 x26 x27 x28 x29 x30 x31 x32 b0 b1 b2 b3 b4 b5 b6 b7 b8 b9 b10 b11 b12 b13 b14 b15 b16 b17 b18 b19 b20 b21 b22 b23 b24 b25 b26 b27 b28 b29 b30 b31 b32 a (by decide) ha) (fun _ _ X hX hG=>gL hX hG) (fun _ _ X hX hG=>dW) (fun a ha=>aNu x0 x1 x2 x3 x4 x5 x6 x7 x8 x9 x10 x11 x12 x13 x14 x15 x16 x17 x18 x19 x20 x21 x22 x23 x24 x25 x26 x27 x28 x29 x30 x31 x32 b0 b1 b2 b3 b4 b5 b6 b7 b8 b9 b10 b11 b12 b13 b14 b15 b16 b17 b18 b19 b20 b21 b22 b23 b24 b25 b26 b27 b28 b29 b30 b31 b32 a ha) (by decide) _ 0 (by show ((0:Nat):Int)≤p2 x32;omega) (by show (p2 x32).toNat-0<_;omega)⟩
set_option maxHeartbeats 8000000 in
set_option maxRecDepth 100000 in
theorem aRC (x0 x1 x2 x3 x4 x5 x6 x7 x8 x9 x10 x11 x12 x13 x14 x15 x16 x17 x18 x19 x20 x21 x22 x23 x24 x25 x26 x27 x28 x29 x30 x31 x32:Int) (b0:zzi x0) (b1:zzi x1) (b2:zzi x2) (b3:zzi x3) (b4:zzi x4) (b5:zzi x5) (b6:zzi x6) (b7:zzi x7) (b8:zzi x8) (b9:zzi x9) (b10:zzi x10) (b11:zzi x11) (b12:zzi x12) (b13:zzi x13) (b14:zzi x14) (b15:zzi x15) (b16:zzi x16) (b17:zzi x17) (b18:zzi x18) (b19:zzi x19) (b20:zzi x20) (b21:zzi x21) (b22:zzi x22) (b23:zzi x23) (b24:zzi x24) (b25:zzi x25) (b26:zzi x26) (b27:zzi x27) (b28:zzi x28) (b29:zzi x29) (b30:zzi x30) (b31:zzi x31) (b32:zzi x32):aAB Try.prog G GB 11 aIR (bT ([x0,x1,x2,x3,x4,x5,x6,x7,x8,x9,x10,x11,x12,x13,x14,x15,x16,x17,x18,x19,x20,x21,x22,x23,x24,x25,x26,x27,x28,x29,x30,x31,x32]:List Int)):=by
 refine pO (lp:=aJ8) (run:=aDv Try.prog) (fun _=>rfl) fits (bL ⟨b0,b1,b2,b3,b4,b5,b6,b7,b8,b9,b10,b11,b12,b13,b14,b15,b16,b17,b18,b19,b20,b21,b22,b23,b24,b25,b26,b27,b28,b29,b30,b31,b32,trivial⟩) dY (fun X hX hG=>fQ hX hG) (fun X hX hG fn c hf hc=>?_) rfl ?_
 ·refine jL (bs:=[dX (cV Try.prog 11) 0,dX (cV Try.prog 11) 1]) ((congrArg bM (jM hf hc)).symm.trans aJ3) ?_
  intro b hb
  simp only[List.mem_cons,List.mem_nil_iff,or_false]at hb
  rcases hb with rfl|rfl
  ·exact rX (j:=9) (by kernel_rfl) (by decide) aAP
  ·refine lD hX hG (by kernel_rfl) ?_
   intro p hp
   simp only[List.mem_cons,List.mem_nil_iff,or_false]at hp
   rcases hp with rfl|rfl|rfl|rfl
   ·exact aOh x0 x1 x2 x3 x4 x5 x6 x7 x8 x9 x10 x11 x12 x13 x14 x15 x16 x17 x18 x19 x20 x21 x22 x23 x24 x25 x26 x27 x28 x29 x30 x31 x32
   ·exact aMP x0 x1 x2 x3 x4 x5 x6 x7 x8 x9 x10 x11 x12 x13 x14 x15 x16 x17 x18 x19 x20 x21 x22 x23 x24 x25 x26 x27 x28 x29 x30 x31 x32
   ·exact aNm x0 x1 x2 x3 x4 x5 x6 x7 x8 x9 x10 x11 x12 x13 x14 x15 x16 x17 x18 x19 x20 x21 x22 x23 x24 x25 x26 x27 x28 x29 x30 x31 x32
   ·exact aN1 x0 x1 x2 x3 x4 x5 x6 x7 x8 x9 x10 x11 x12 x13 x14 x15 x16 x17 x18 x19 x20 x21 x22 x23 x24 x25 x26 x27 x28 x29 x30 x31 x32
 ·skip
  refine aG (.cmp .le (.lit 1) (.var 32)) (fun h0=>?_) (fun h0=>?_)
  rotate_left
  ·skip
   refine aE aPK ?_
   simp only[iP];refine⟨?_,trivial⟩;show B.den G _ bW=_;unfold bW;simp only[nn]at *;(try simp only[show (1:Int)*2 ^ (0:Int).toNat=1 from rfl]at *);(try simp only[Bool.eq_false_iff,ne_eq,Bool.and_eq_true,decide_eq_true_eq]at *);first|omega|(refine Bool.eq_false_iff.2 (fun h=>?_);simp only[Bool.and_eq_true,decide_eq_true_eq]at h;omega)
  refine aG (.cmp .lt (.lit 6) (.var 32)) (fun h1=>?_) (fun h1=>?_)
  ·skip
   refine aE aQk ?_
   simp only[iP];refine⟨?_,trivial⟩;show B.den G _ bW=_;unfold bW;simp only[nn]at *;(try simp only[show (1:Int)*2 ^ (0:Int).toNat=1 from rfl]at *);(try simp only[Bool.eq_false_iff,ne_eq,Bool.and_eq_true,decide_eq_true_eq]at *);first|omega|(refine Bool.eq_false_iff.2 (fun h=>?_);simp only[Bool.and_eq_true,decide_eq_true_eq]at h;omega)
  refine aG (.and (.cmp .le (.lit 0) (.lit 0)) (.and (.cmp .le (.lit 0) (.lit 6)) (.and (.cmp .le (.lit 0) (.lit 0)) (.and (.cmp .le (.lit 0) (.op .shl (.lit 1) (.lit 0))) (.and (.cmp .le (.lit 0) (.lit 0)) (.and (.cmp .le (.lit 0) (.op .shl (.lit 1) (.lit 0))) zzG)))))) (fun h2=>?_) (fun h2=>?_)
  ·skip
   refine aE aTr ?_
   simp only[iP];refine⟨?_,trivial⟩;show B.den G _ bW=_;unfold bW;simp only[nn]at *;(try simp only[show (1:Int)*2 ^ (0:Int).toNat=1 from rfl]at *);(try simp only[Bool.eq_false_iff,ne_eq,Bool.and_eq_true,decide_eq_true_eq]at *);first|omega|(refine Bool.eq_false_iff.2 (fun h=>?_);simp only[Bool.and_eq_true,decide_eq_true_eq]at h;omega)
  refine aE aUi ?_
  simp only[iP];refine⟨?_,trivial⟩;show B.den G _ bW=_;unfold bW;simp only[nn]at *;(try simp only[show (1:Int)*2 ^ (0:Int).toNat=1 from rfl]at *);(try simp only[Bool.eq_false_iff,ne_eq,Bool.and_eq_true,decide_eq_true_eq]at *);first|omega|(refine Bool.eq_false_iff.2 (fun h=>?_);simp only[Bool.and_eq_true,decide_eq_true_eq]at h;omega)
theorem aP {p:Int × Int} {l:List (Int × Int)} {xs:List Int} (h:eG (p::l) xs):∃ x ys,xs=x::ys∧(p.1≤x∧x≤p.2)∧eG l ys:=by
 cases xs with
 |nil=>exact h.elim
 |cons x ys=>exact⟨x,ys,rfl,h.1,h.2⟩
theorem aAn {xs:List Int} (h:eG [] xs):xs=[]:=by
 cases xs with
 |nil=>rfl
 |cons x ys=>exact h.elim
def nP:List (Int × Int):=[zzI,zzI,zzI,zzI,zzI,zzI,zzI,zzI,zzI,zzI,zzI,zzI,zzI,zzI,zzI,zzI,zzI,zzI,zzI,zzI,zzI,zzI,zzI,zzI,zzI,zzI,zzI,zzI,zzI,zzI,zzI,zzI,zzI]
def zR:Ctx→List SV→aR→Res (SV × aR):=nI GB nP 0 (.lit true) aIR
theorem aI7 {X:Ctx} {ρ:Nat→Int} (hX:X.Ok ρ) (hG:X.G=G):aBy Try.prog X ρ GB 11 zR:=by
 obtain⟨XG,XI,XV,XF⟩:=X
 simp only at hG
 subst hG
 refine mY hX ?_
 intro xs ls hw hl _
 have hl':ls=[]:=List.length_eq_zero_iff.1 hl
 subst hl'
 rw[List.append_nil]
 unfold nP at hw
 obtain⟨x0,y0,e0,b0,h0⟩:=aP hw
 obtain⟨x1,y1,e1,b1,h1⟩:=aP h0
 obtain⟨x2,y2,e2,b2,h2⟩:=aP h1
 obtain⟨x3,y3,e3,b3,h3⟩:=aP h2
 obtain⟨x4,y4,e4,b4,h4⟩:=aP h3
 obtain⟨x5,y5,e5,b5,h5⟩:=aP h4
 obtain⟨x6,y6,e6,b6,h6⟩:=aP h5
 obtain⟨x7,y7,e7,b7,h7⟩:=aP h6
 obtain⟨x8,y8,e8,b8,h8⟩:=aP h7
 obtain⟨x9,y9,e9,b9,h9⟩:=aP h8
 obtain⟨x10,y10,e10,b10,h10⟩:=aP h9
 obtain⟨x11,y11,e11,b11,h11⟩:=aP h10
 obtain⟨x12,y12,e12,b12,h12⟩:=aP h11
 obtain⟨x13,y13,e13,b13,h13⟩:=aP h12
 obtain⟨x14,y14,e14,b14,h14⟩:=aP h13
 obtain⟨x15,y15,e15,b15,h15⟩:=aP h14
 obtain⟨x16,y16,e16,b16,h16⟩:=aP h15
 obtain⟨x17,y17,e17,b17,h17⟩:=aP h16
 obtain⟨x18,y18,e18,b18,h18⟩:=aP h17
 obtain⟨x19,y19,e19,b19,h19⟩:=aP h18
 obtain⟨x20,y20,e20,b20,h20⟩:=aP h19
 obtain⟨x21,y21,e21,b21,h21⟩:=aP h20
 obtain⟨x22,y22,e22,b22,h22⟩:=aP h21
 obtain⟨x23,y23,e23,b23,h23⟩:=aP h22
 obtain⟨x24,y24,e24,b24,h24⟩:=aP h23
 obtain⟨x25,y25,e25,b25,h25⟩:=aP h24
 obtain⟨x26,y26,e26,b26,h26⟩:=aP h25
 obtain⟨x27,y27,e27,b27,h27⟩:=aP h26
 obtain⟨x28,y28,e28,b28,h28⟩:=aP h27
 obtain⟨x29,y29,e29,b29,h29⟩:=aP h28
 obtain⟨x30,y30,e30,b30,h30⟩:=aP h29
 obtain⟨x31,y31,e31,b31,h31⟩:=aP h30
 obtain⟨x32,y32,e32,b32,h32⟩:=aP h31
 have e33:=aAn h32
 subst e33 e32 e31 e30 e29 e28 e27 e26 e25 e24 e23 e22 e21 e20 e19 e18 e17 e16 e15 e14 e13 e12 e11 e10 e9 e8 e7 e6 e5 e4 e3 e2 e1 e0
 exact aRC x0 x1 x2 x3 x4 x5 x6 x7 x8 x9 x10 x11 x12 x13 x14 x15 x16 x17 x18 x19 x20 x21 x22 x23 x24 x25 x26 x27 x28 x29 x30 x31 x32 b0 b1 b2 b3 b4 b5 b6 b7 b8 b9 b10 b11 b12 b13 b14 b15 b16 b17 b18 b19 b20 b21 b22 b23 b24 b25 b26 b27 b28 b29 b30 b31 b32
def aK4:aZ:=pW 11 zR iO
theorem aJN {X:Ctx} {ρ:Nat→Int} (hX:X.Ok ρ) (hG:X.G=G):eO Try.prog X ρ GB aK4:=oP (aI7 hX hG) (fQ hX hG)
def aFG:Ctx→List SV→aR→Res (SV × aR):=nI GB nP 0 (.lit true) bAp
theorem aRj {X:Ctx} {ρ:Nat→Int} (hX:X.Ok ρ) (hG:X.G=G):aBy Try.prog X ρ GB 12 aFG:=by
 obtain⟨XG,XI,XV,XF⟩:=X
 simp only at hG
 subst hG
 refine mY hX ?_
 intro xs ls hw hl _
 have hl':ls=[]:=List.length_eq_zero_iff.1 hl
 subst hl'
 rw[List.append_nil]
 unfold nP at hw
 obtain⟨x0,y0,e0,b0,h0⟩:=aP hw
 obtain⟨x1,y1,e1,b1,h1⟩:=aP h0
 obtain⟨x2,y2,e2,b2,h2⟩:=aP h1
 obtain⟨x3,y3,e3,b3,h3⟩:=aP h2
 obtain⟨x4,y4,e4,b4,h4⟩:=aP h3
 obtain⟨x5,y5,e5,b5,h5⟩:=aP h4
 obtain⟨x6,y6,e6,b6,h6⟩:=aP h5
 obtain⟨x7,y7,e7,b7,h7⟩:=aP h6
 obtain⟨x8,y8,e8,b8,h8⟩:=aP h7
 obtain⟨x9,y9,e9,b9,h9⟩:=aP h8
 obtain⟨x10,y10,e10,b10,h10⟩:=aP h9
 obtain⟨x11,y11,e11,b11,h11⟩:=aP h10
 obtain⟨x12,y12,e12,b12,h12⟩:=aP h11
 obtain⟨x13,y13,e13,b13,h13⟩:=aP h12
 obtain⟨x14,y14,e14,b14,h14⟩:=aP h13
 obtain⟨x15,y15,e15,b15,h15⟩:=aP h14
 obtain⟨x16,y16,e16,b16,h16⟩:=aP h15
 obtain⟨x17,y17,e17,b17,h17⟩:=aP h16
 obtain⟨x18,y18,e18,b18,h18⟩:=aP h17
 obtain⟨x19,y19,e19,b19,h19⟩:=aP h18
 obtain⟨x20,y20,e20,b20,h20⟩:=aP h19
 obtain⟨x21,y21,e21,b21,h21⟩:=aP h20
 obtain⟨x22,y22,e22,b22,h22⟩:=aP h21
 obtain⟨x23,y23,e23,b23,h23⟩:=aP h22
 obtain⟨x24,y24,e24,b24,h24⟩:=aP h23
 obtain⟨x25,y25,e25,b25,h25⟩:=aP h24
 obtain⟨x26,y26,e26,b26,h26⟩:=aP h25
 obtain⟨x27,y27,e27,b27,h27⟩:=aP h26
 obtain⟨x28,y28,e28,b28,h28⟩:=aP h27
 obtain⟨x29,y29,e29,b29,h29⟩:=aP h28
 obtain⟨x30,y30,e30,b30,h30⟩:=aP h29
 obtain⟨x31,y31,e31,b31,h31⟩:=aP h30
 obtain⟨x32,y32,e32,b32,h32⟩:=aP h31
 have e33:=aAn h32
 subst e33 e32 e31 e30 e29 e28 e27 e26 e25 e24 e23 e22 e21 e20 e19 e18 e17 e16 e15 e14 e13 e12 e11 e10 e9 e8 e7 e6 e5 e4 e3 e2 e1 e0
 exact bA3 x0 x1 x2 x3 x4 x5 x6 x7 x8 x9 x10 x11 x12 x13 x14 x15 x16 x17 x18 x19 x20 x21 x22 x23 x24 x25 x26 x27 x28 x29 x30 x31 x32 b0 b1 b2 b3 b4 b5 b6 b7 b8 b9 b10 b11 b12 b13 b14 b15 b16 b17 b18 b19 b20 b21 b22 b23 b24 b25 b26 b27 b28 b29 b30 b31 b32
def aZT:aZ:=pW 12 aFG aK4
theorem aRf {X:Ctx} {ρ:Nat→Int} (hX:X.Ok ρ) (hG:X.G=G):eO Try.prog X ρ GB aZT:=oP (aRj hX hG) (aJN hX hG)
theorem aWb {p:Int × Int} {l:List (Int × Int)} {xs:List Int} (h:eG (p::l) xs):∃ x ys,xs=x::ys∧(p.1≤x∧x≤p.2)∧eG l ys:=by
 cases xs with
 |nil=>exact h.elim
 |cons x ys=>exact⟨x,ys,rfl,h.1,h.2⟩
theorem bDc {xs:List Int} (h:eG [] xs):xs=[]:=by
 cases xs with
 |nil=>rfl
 |cons x ys=>exact h.elim
theorem bCS {xs:List Int} (h:xs.length=1):∃ a,xs=[a]:=by
 match xs,h with
 |[a],_=>exact⟨a,rfl⟩
def aKV:List (Int × Int):=[(1,10000),(0,10000)]
def aI1:List (Int × Int):=[(1,10000)]
def bD3:St:=⟨((.own 0 (.var 0) none)::(.own 1 (.var 0) none)::.any::.any::.any::(.int .i64 (.var 1))::zzn 20 ([])),[iE [.int .i64,.int .i64] (.var 2) (.var 0) 23,iE [.int .i64,.int .i64] (.var 2) (.var 0) 23]⟩
def bDI:St:=⟨(zzn 26 ([])),[iE [.int .i64,.int .i64] (.var 1) (.var 0) 23,iE [.int .i64,.int .i64] (.var 1) (.var 0) 23]⟩
def bDC:LoopS:=⟨1,2,bD3,.lit true,.exit 0,bDI,.exit 0,bDI⟩
def bDW:LoopU:=⟨bDC,[.var 0,.lit 0,.var 1],aKV,.lit true⟩
def aAC (P:Program) (fs:List B):Res SV:=bK G GI aKV fs fun X=>gI P X GB jY fX 4000 (dX (cV P 33) 0) bDC
def bAd:eW:=kR 4 (gY (bX GB) [bDW]) fX
def bAV:FunS:=⟨[(.own 0 (.var 0) none),(.own 1 (.var 0) none)],[iE [.int .i64,.int .i64] (.var 1) (.var 0) 23,iE [.int .i64,.int .i64] (.var 1) (.var 0) 23],.lit true,(.bool (.lit true)),[iE [.int .i64,.int .i64] (.var 1) (.var 0) 23,iE [.int .i64,.int .i64] (.var 1) (.var 0) 23],(.bool (.lit true)),[iE [.int .i64,.int .i64] (.var 1) (.var 0) 23,iE [.int .i64,.int .i64] (.var 1) (.var 0) 23]⟩
def aPc (P:Program) (fs:List B):Res SV:=bK G GI aI1 fs fun X=>aAj P X GB jY bAd 4000 33 bAV
set_option maxRecDepth 100000
open Go Go.RowKit Sx Wi
def aZp (P:Program) (fs:List B):Res SV:=aPc P fs
def aR2:List B:=[]
theorem aPN:aZp Try.prog aR2 = .ok (.tuple [(.agg []),(.bool (.lit true))]):=by kernel_rfl
set_option maxRecDepth 100000
open Go Go.RowKit Sx Wi
def aMv (P:Program) (fs:List B):Res SV:=aAC P fs
def aDt:List B:=[]
def mK:B:=(.cmp .lt (.var 1) (.var 0))
def aRQ:List B:=aH mK++aDt
def aQO:List B:=aH (B.neg mK)++aDt
theorem aUz:aMv Try.prog aRQ = .ok (.agg [(.int .i64 (.op .add (.var 1) (.lit 1))),(.int .i64 (.var 1)),(.int .i64 (.var 2)),(.int .i64 (.var 2)),(.int .i64 (.var 2)),(.int .i64 (.var 2))]):=by kernel_rfl
theorem aVN:aMv Try.prog aQO = .ok (.tuple [(.agg [(.int .i64 (.var 2)),(.int .i64 (.var 1)),(.int .i64 (.var 2)),(.int .i64 (.var 1))]),(.bool (.lit true))]):=by kernel_rfl
open Go Go.RowKit Sx Wi
def kM (N C:Int) (a:Nat):Nat→Int:=bT ([N]++[(a:Int),C])
theorem aWc (N C:Int) (b0:1≤N∧N≤10000) (a:Nat) (ha:(a:Int)≤N):∀ i q,aKV[i]?=some q→q.1≤kM N C a i∧kM N C a i≤q.2:=by
 unfold kM aKV
 exact pQ (xs:=[N,(a:Int)]) (ls:=[C]) (by exact⟨b0,by omega,trivial⟩)
set_option maxHeartbeats 4000000 in
set_option maxRecDepth 100000 in
theorem bAJ (N C:Int) (a:Nat) (ha:(a:Int)≤N):Sx.jH (aAC Try.prog) G (kM N C a) (dG G (kM N C) (bT ([N]++[C])) 1 (.lit true) (fun a=>(a:Int)≤N) (fun a=>N.toNat-a) a) []:=by
 refine aG mK (fun h0=>?_) (fun h0=>?_)
 ·skip
  refine aE aUz ?_
  unfold mK at h0;simp only[nn,kM,List.cons_append,List.nil_append,Bool.or_eq_true,fT,ne_eq]at h0;have hm:N.toNat-(a+1)<N.toNat-a:=(by omega);have hg:((a+1:Nat):Int)≤N:=(by omega);clear h0;simp only[dG];refine⟨a+1,hg,hm,iB (by simp),?_⟩;simp only[aJ];clear hm hg;simp only[nn,Int.natCast_add,Int.cast_ofNat_Int,Int.natCast_one,kM,List.cons_append,List.nil_append,Bool.or_eq_true,fT,ne_eq];all_goals ((repeat' refine And.intro ?_ ?_)<;>first|with_reducible rfl|with_reducible trivial)
 refine aE aVN ?_
 unfold mK at h0;simp only[dG];refine⟨rfl,iB (by simp),?_⟩;simp only[aJ];simp only[nn,kM,List.cons_append,List.nil_append,Bool.or_eq_true,fT,ne_eq];all_goals ((repeat' refine And.intro ?_ ?_)<;>first|with_reducible rfl|with_reducible trivial)
theorem aQq:bM (cV Try.prog 33)=[dX (cV Try.prog 33) 0]:=by kernel_rfl
set_option maxHeartbeats 1000000 in
set_option maxRecDepth 100000 in
theorem bA0 (N C:Int) (b0:1≤N∧N≤10000):aAB Try.prog G GB 33 bAV (bT ([N]++[C])):=by
 refine pO (lp:=bAd) (run:=aPc Try.prog) (fun _=>rfl) fits (pQ (xs:=[N]) (ls:=[C]) (by exact⟨b0,trivial⟩)) dY (fun X hX hG=>gL hX hG) (fun X hX hG fn c hf hc=>?_) rfl ?_
 ·refine jL ((congrArg bM (jM hf hc)).symm.trans aQq) ?_
  intro b hb
  simp only[List.mem_cons,List.mem_nil_iff,or_false]at hb
  subst hb
  refine lD hX hG (by kernel_rfl) ?_
  intro p hp'
  simp only[List.mem_cons,List.mem_nil_iff,or_false]at hp'
  subst hp'
  intro _ _
  have e:fJ G (bT ([N]++[C])) bDW.es=kM N C 0:=by
   rw[eD]
   rfl
  rw[e]
  exact⟨N.toNat+1,dZ (ι:=Nat) (ρ:=kM N C) (ρT:=bT ([N]++[C])) (m:=fun a=>N.toNat-a) (Good:=fun a=>(a:Int)≤N) (run:=aAC Try.prog) (fun _=>rfl) fits rfl dY (fun a ha=>aWc N C b0 a ha) (fun _ _ X hX hG=>gL hX hG) (fun _ _ X hX hG=>dW) (fun a ha=>bAJ N C a ha) (by decide) (N.toNat+1) 0 (by show ((0:Nat):Int)≤N;omega) (by show N.toNat-0<N.toNat+1;omega)⟩
 ·skip
  refine aE aPN ?_
  exact⟨rfl,trivial⟩
def aGK:Ctx→List SV→aR→Res (SV × aR):=nI GB aI1 1 (.lit true) bAV
theorem bDQ {X:Ctx} {ρ:Nat→Int} (hX:X.Ok ρ) (hG:X.G=G):aBy Try.prog X ρ GB 33 aGK:=by
 obtain⟨XG,XI,XV,XF⟩:=X
 simp only at hG
 subst hG
 refine mY hX ?_
 intro xs ls hw hl hp
 unfold aI1 at hw
 obtain⟨x0,y0,e0,b0,h0⟩:=aWb hw
 have e1:=bDc h0
 subst e1 e0
 obtain⟨l0,rfl⟩:=bCS hl
 exact bA0 x0 l0 b0
def aOI:aZ:=pW 33 aGK aZT
theorem aNI {X:Ctx} {ρ:Nat→Int} (hX:X.Ok ρ) (hG:X.G=G):eO Try.prog X ρ GB aOI:=oP (bDQ hX hG) (aRf hX hG)
def aPs (P:Program) (fs:List B):Res SV:=bK G GI nP fs fun X=>kL P X GB aOI fX 4000 3 [(.agg zzx),(.int .i64 (.var 32))]
set_option maxRecDepth 100000
open Go Go.RowKit Sx Wi
def aZQ (P:Program) (fs:List B):Res SV:=aPs P fs
def aS0:List B:=[]
def aRc:B:=(.and (.cmp .le (.lit 1) (.var 32)) (.and (.cmp .le (.var 32) (.lit 6)) zzF))
def bCt:List B:=aH aRc++aS0
def bCv:List B:=aH (B.neg aRc)++aS0
theorem bBU:aZQ Try.prog bCt = .ok (.bool (.lit true)):=by kernel_rfl
theorem bBv:aZQ Try.prog bCv = .ok (.bool (.lit true)):=by kernel_rfl
open Go Go.RowKit Sx Wi
set_option maxHeartbeats 4000000 in
set_option maxRecDepth 100000 in
theorem aA2 (x0 x1 x2 x3 x4 x5 x6 x7 x8 x9 x10 x11 x12 x13 x14 x15 x16 x17 x18 x19 x20 x21 x22 x23 x24 x25 x26 x27 x28 x29 x30 x31 x32:Int) (b0:zzi x0) (b1:zzi x1) (b2:zzi x2) (b3:zzi x3) (b4:zzi x4) (b5:zzi x5) (b6:zzi x6) (b7:zzi x7) (b8:zzi x8) (b9:zzi x9) (b10:zzi x10) (b11:zzi x11) (b12:zzi x12) (b13:zzi x13) (b14:zzi x14) (b15:zzi x15) (b16:zzi x16) (b17:zzi x17) (b18:zzi x18) (b19:zzi x19) (b20:zzi x20) (b21:zzi x21) (b22:zzi x22) (b23:zzi x23) (b24:zzi x24) (b25:zzi x25) (b26:zzi x26) (b27:zzi x27) (b28:zzi x28) (b29:zzi x29) (b30:zzi x30) (b31:zzi x31) (b32:zzi x32) (w:World) (hw:pR GB w):Calls Try.prog 3 #[.agg #[.int .i64 x0,.int .i64 x1,.int .i64 x2,.int .i64 x3,.int .i64 x4,.int .i64 x5,.int .i64 x6,.int .i64 x7,.int .i64 x8,.int .i64 x9,.int .i64 x10,.int .i64 x11,.int .i64 x12,.int .i64 x13,.int .i64 x14,.int .i64 x15,.int .i64 x16,.int .i64 x17,.int .i64 x18,.int .i64 x19,.int .i64 x20,.int .i64 x21,.int .i64 x22,.int .i64 x23,.int .i64 x24,.int .i64 x25,.int .i64 x26,.int .i64 x27,.int .i64 x28,.int .i64 x29,.int .i64 x30,.int .i64 x31],.int .i64 x32] w (fun e w'=>e = .returned (.bool true)∧Below w.heap.size w w'):=by
 refine(dK (lP (ρ:=bT ([x0,x1,x2,x3,x4,x5,x6,x7,x8,x9,x10,x11,x12,x13,x14,x15,x16,x17,x18,x19,x20,x21,x22,x23,x24,x25,x26,x27,x28,x29,x30,x31,x32]:List Int)) (lp:=fX) (run:=aPs Try.prog) (fun _=>rfl) fits (bL (by unfold nP;exact⟨b0,b1,b2,b3,b4,b5,b6,b7,b8,b9,b10,b11,b12,b13,b14,b15,b16,b17,b18,b19,b20,b21,b22,b23,b24,b25,b26,b27,b28,b29,b30,b31,b32,trivial⟩)) dY (fun X hX hG=>aNI hX hG) (fun X hX hG fn c hf hc=>dW) rfl rfl bV ?_ w hw)).2
 refine aG (.and (.cmp .le (.lit 1) (.var 32)) (.and (.cmp .le (.var 32) (.lit 6)) zzF)) (fun h0=>aE bBU ⟨rfl,rfl⟩) (fun h0=>?_)
 refine aE bBv ?_
 exact⟨rfl,rfl⟩
end Go.Proofs.Ytkpdiehbaiepaaa
