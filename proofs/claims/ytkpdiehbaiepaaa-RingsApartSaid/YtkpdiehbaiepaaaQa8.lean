/- What is proved: the ring beside a side: its rounds. No condition but the numbers' own bounds. -/
import Derived.Test.YtkpdiehbaiepaaaQNn
import Derived.Test.YtkpdiehbaiepaaaQa7
import Derived.Test.YtkpdiehbaiepaaaQa6
set_option linter.unusedSimpArgs false
set_option linter.unusedVariables false
namespace Go.Proofs.Ytkpdiehbaiepaaa
open Go Go.RowKit Sx Wi
set_option maxHeartbeats 2000000 in
set_option maxRecDepth 100000 in
theorem xU (x0 x1 x2 x3 x4 x5 x6 x7 x8 x9 x10 x11 x12 x13 x14 x15 x16 x17 x18 x19 x20 x21 x22 x23 x24 x25 x26 x27 x28 x29 x30 x31 x32 x33:Int) (b0:zzf x0) (b1:zzf x1) (b2:zzf x2) (b3:zzf x3) (b4:zzf x4) (b5:zzf x5) (b6:zzf x6) (b7:zzf x7) (b8:zzf x8) (b9:zzf x9) (b10:zzf x10) (b11:zzf x11) (b12:zzf x12) (b13:zzf x13) (b14:zzf x14) (b15:zzf x15) (b16:zzf x16) (b17:zzf x17) (b18:zzf x18) (b19:zzf x19) (b20:zzf x20) (b21:zzf x21) (b22:zzf x22) (b23:zzf x23) (b24:zzf x24) (b25:zzf x25) (b26:zzf x26) (b27:zzf x27) (b28:zzf x28) (b29:zzf x29) (b30:zzf x30) (b31:zzf x31) (b32:1≤x32∧x32≤6) (b33:1≤x33∧x33≤6) (a b:Nat) (acc:List (List Int)) (hp:eD [x0,x1,x2,x3,x4,x5,x6,x7,x8,x9,x10,x11,x12,x13,x14,x15,x16,x17,x18,x19,x20,x21,x22,x23,x24,x25,x26,x27,x28,x29,x30,x31] x32 x33 1 (a,b,acc)) (hlt:(a:Int)<p2 x33) (hor:(b:Int)=p2 x32-1∨(2*(a:Int)+1)*p2 x32≤(2*(b:Int)+1)*p2 x33):aZ G (aP 1 x0 x1 x2 x3 x4 x5 x6 x7 x8 x9 x10 x11 x12 x13 x14 x15 x16 x17 x18 x19 x20 x21 x22 x23 x24 x25 x26 x27 x28 x29 x30 x31 x32 x33) (dJ ([x0,x1,x2,x3,x4,x5,x6,x7,x8,x9,x10,x11,x12,x13,x14,x15,x16,x17,x18,x19,x20,x21,x22,x23,x24,x25,x26,x27,x28,x29,x30,x31,x32,x33]:List Int)) 34 (.lit true) (eD [x0,x1,x2,x3,x4,x5,x6,x7,x8,x9,x10,x11,x12,x13,x14,x15,x16,x17,x18,x19,x20,x21,x22,x23,x24,x25,x26,x27,x28,x29,x30,x31] x32 x33 1) (dD x0 x1 x2 x3 x4 x5 x6 x7 x8 x9 x10 x11 x12 x13 x14 x15 x16 x17 x18 x19 x20 x21 x22 x23 x24 x25 x26 x27 x28 x29 x30 x31 x32 x33) (a,b,acc) aDz:=by
 have hn:=qI hp hlt hor
 obtain⟨g1,g2,g3,g4,g5⟩:=hp
 simp only at g1 g2 g3 g4
 clear g5 hor
 have hk:=aI x32 (by omega) (by omega)
 have he:=aI x33 (by omega) (by omega)
 have er:∃ r,r=mS (gE [x0,x1,x2,x3,x4,x5,x6,x7,x8,x9,x10,x11,x12,x13,x14,x15,x16,x17,x18,x19,x20,x21,x22,x23,x24,x25,x26,x27,x28,x29,x30,x31] x33 1 (a:Int)) (gE [x0,x1,x2,x3,x4,x5,x6,x7,x8,x9,x10,x11,x12,x13,x14,x15,x16,x17,x18,x19,x20,x21,x22,x23,x24,x25,x26,x27,x28,x29,x30,x31] x33 1 ((a:Int)+1)) (gF [x0,x1,x2,x3,x4,x5,x6,x7,x8,x9,x10,x11,x12,x13,x14,x15,x16,x17,x18,x19,x20,x21,x22,x23,x24,x25,x26,x27,x28,x29,x30,x31] x32 1 (b:Int))∧r=[G 10 [x24,x26,x28,x30,(a:Int),x33],G 10 [x25,x27,x29,x31,(a:Int),x33],G 10 [x24,x26,x28,x30,((a:Int)+1),x33],G 10 [x25,x27,x29,x31,((a:Int)+1),x33],G 11 [x0,x2,x4,x6,x8,x10,x12,x14,x16,x18,x20,x22,x24,x26,x28,x30,((1*2 ^ x32.toNat)-1),(b:Int),x32],G 11 [x1,x3,x5,x7,x9,x11,x13,x15,x17,x19,x21,x23,x25,x27,x29,x31,((1*2 ^ x32.toNat)-1),(b:Int),x32],65536,65536,(Int.fdiv 65536 (1*2 ^ x32.toNat)*((1*2 ^ x32.toNat)-1)),(Int.fdiv 65536 (1*2 ^ x33.toNat)*(a:Int)),(Int.fdiv 65536 (1*2 ^ x33.toNat)*((a:Int)+1)),(Int.fdiv 65536 (1*2 ^ x32.toNat)*(b:Int))]:=⟨_,rfl,by
  have e0:mS (gE [x0,x1,x2,x3,x4,x5,x6,x7,x8,x9,x10,x11,x12,x13,x14,x15,x16,x17,x18,x19,x20,x21,x22,x23,x24,x25,x26,x27,x28,x29,x30,x31] x33 1 (a:Int)) (gE [x0,x1,x2,x3,x4,x5,x6,x7,x8,x9,x10,x11,x12,x13,x14,x15,x16,x17,x18,x19,x20,x21,x22,x23,x24,x25,x26,x27,x28,x29,x30,x31] x33 1 ((a:Int)+1)) (gF [x0,x1,x2,x3,x4,x5,x6,x7,x8,x9,x10,x11,x12,x13,x14,x15,x16,x17,x18,x19,x20,x21,x22,x23,x24,x25,x26,x27,x28,x29,x30,x31] x32 1 (b:Int))=[G 10 [x24,x26,x28,x30,(a:Int),x33],G 10 [x25,x27,x29,x31,(a:Int),x33],G 10 [x24,x26,x28,x30,((a:Int)+1),x33],G 10 [x25,x27,x29,x31,((a:Int)+1),x33],G 11 [x0,x2,x4,x6,x8,x10,x12,x14,x16,x18,x20,x22,x24,x26,x28,x30,((1*2 ^ x32.toNat)-1),(b:Int),x32],G 11 [x1,x3,x5,x7,x9,x11,x13,x15,x17,x19,x21,x23,x25,x27,x29,x31,((1*2 ^ x32.toNat)-1),(b:Int),x32],65536,65536,(Int.fdiv 65536 (1*2 ^ x32.toNat)*((1*2 ^ x32.toNat)-1)),(Int.fdiv 65536 (1*2 ^ x33.toNat)*(a:Int)),(Int.fdiv 65536 (1*2 ^ x33.toNat)*((a:Int)+1)),(Int.fdiv 65536 (1*2 ^ x32.toNat)*(b:Int))]:=rfl
  (try simp only[Int.mul_one]at e0)
  with_reducible exact e0⟩
 obtain⟨r,er,er'⟩:=er
 rw[←er]at hn
 have hm:dD x0 x1 x2 x3 x4 x5 x6 x7 x8 x9 x10 x11 x12 x13 x14 x15 x16 x17 x18 x19 x20 x21 x22 x23 x24 x25 x26 x27 x28 x29 x30 x31 x32 x33 (a+1,b,acc++[r])<dD x0 x1 x2 x3 x4 x5 x6 x7 x8 x9 x10 x11 x12 x13 x14 x15 x16 x17 x18 x19 x20 x21 x22 x23 x24 x25 x26 x27 x28 x29 x30 x31 x32 x33 (a,b,acc):=by
  unfold dD;simp only;omega
 have ec:G 91 [Lc.enc (bL [x0,x1,x2,x3,x4,x5,x6,x7,x8,x9,x10,x11,x12,x13,x14,x15,x16,x17,x18,x19,x20,x21,x22,x23,x24,x25,x26,x27,x28,x29,x30,x31] x32 x33 1 acc),G 10 [x24,x26,x28,x30,(a:Int),x33],G 10 [x25,x27,x29,x31,(a:Int),x33],G 10 [x24,x26,x28,x30,((a:Int)+1),x33],G 10 [x25,x27,x29,x31,((a:Int)+1),x33],G 11 [x0,x2,x4,x6,x8,x10,x12,x14,x16,x18,x20,x22,x24,x26,x28,x30,((1*2 ^ x32.toNat)-1),(b:Int),x32],G 11 [x1,x3,x5,x7,x9,x11,x13,x15,x17,x19,x21,x23,x25,x27,x29,x31,((1*2 ^ x32.toNat)-1),(b:Int),x32],65536,65536,(Int.fdiv 65536 (1*2 ^ x32.toNat)*((1*2 ^ x32.toNat)-1)),(Int.fdiv 65536 (1*2 ^ x33.toNat)*(a:Int)),(Int.fdiv 65536 (1*2 ^ x33.toNat)*((a:Int)+1)),(Int.fdiv 65536 (1*2 ^ x32.toNat)*(b:Int))]=Lc.enc (bL [x0,x1,x2,x3,x4,x5,x6,x7,x8,x9,x10,x11,x12,x13,x14,x15,x16,x17,x18,x19,x20,x21,x22,x23,x24,x25,x26,x27,x28,x29,x30,x31] x32 x33 1 (acc++[r])):=by
  rw[←dZ,←gU kC,er']
 have el:((bL [x0,x1,x2,x3,x4,x5,x6,x7,x8,x9,x10,x11,x12,x13,x14,x15,x16,x17,x18,x19,x20,x21,x22,x23,x24,x25,x26,x27,x28,x29,x30,x31] x32 x33 1 acc).length:Int)+1=((bL [x0,x1,x2,x3,x4,x5,x6,x7,x8,x9,x10,x11,x12,x13,x14,x15,x16,x17,x18,x19,x20,x21,x22,x23,x24,x25,x26,x27,x28,x29,x30,x31] x32 x33 1 (acc++[r])).length:Int):=by
  rw[←dZ,List.length_append];rfl
 unfold aDz
 simp only[aZ]
 refine⟨(a+1,b,acc++[r]),hn,hm,cP (by simp),?_⟩
 clear hn hm er er'
 simp only[aU]
 simp only[nn,aP,List.cons_append,List.nil_append,aV]at ec el ⊢
 (repeat' refine And.intro ?_ ?_)<;>first|with_reducible exact ec|with_reducible exact el|with_reducible rfl|with_reducible trivial|omega
set_option maxHeartbeats 2000000 in
set_option maxRecDepth 100000 in
theorem yD (x0 x1 x2 x3 x4 x5 x6 x7 x8 x9 x10 x11 x12 x13 x14 x15 x16 x17 x18 x19 x20 x21 x22 x23 x24 x25 x26 x27 x28 x29 x30 x31 x32 x33:Int) (b0:zzf x0) (b1:zzf x1) (b2:zzf x2) (b3:zzf x3) (b4:zzf x4) (b5:zzf x5) (b6:zzf x6) (b7:zzf x7) (b8:zzf x8) (b9:zzf x9) (b10:zzf x10) (b11:zzf x11) (b12:zzf x12) (b13:zzf x13) (b14:zzf x14) (b15:zzf x15) (b16:zzf x16) (b17:zzf x17) (b18:zzf x18) (b19:zzf x19) (b20:zzf x20) (b21:zzf x21) (b22:zzf x22) (b23:zzf x23) (b24:zzf x24) (b25:zzf x25) (b26:zzf x26) (b27:zzf x27) (b28:zzf x28) (b29:zzf x29) (b30:zzf x30) (b31:zzf x31) (b32:1≤x32∧x32≤6) (b33:1≤x33∧x33≤6) (a b:Nat) (acc:List (List Int)) (hp:eD [x0,x1,x2,x3,x4,x5,x6,x7,x8,x9,x10,x11,x12,x13,x14,x15,x16,x17,x18,x19,x20,x21,x22,x23,x24,x25,x26,x27,x28,x29,x30,x31] x32 x33 1 (a,b,acc)) (hlt:(b:Int)<p2 x32-1) (hor:¬((a:Int)<p2 x33∧((b:Int)=p2 x32-1∨(2*(a:Int)+1)*p2 x32≤(2*(b:Int)+1)*p2 x33))):aZ G (aP 1 x0 x1 x2 x3 x4 x5 x6 x7 x8 x9 x10 x11 x12 x13 x14 x15 x16 x17 x18 x19 x20 x21 x22 x23 x24 x25 x26 x27 x28 x29 x30 x31 x32 x33) (dJ ([x0,x1,x2,x3,x4,x5,x6,x7,x8,x9,x10,x11,x12,x13,x14,x15,x16,x17,x18,x19,x20,x21,x22,x23,x24,x25,x26,x27,x28,x29,x30,x31,x32,x33]:List Int)) 34 (.lit true) (eD [x0,x1,x2,x3,x4,x5,x6,x7,x8,x9,x10,x11,x12,x13,x14,x15,x16,x17,x18,x19,x20,x21,x22,x23,x24,x25,x26,x27,x28,x29,x30,x31] x32 x33 1) (dD x0 x1 x2 x3 x4 x5 x6 x7 x8 x9 x10 x11 x12 x13 x14 x15 x16 x17 x18 x19 x20 x21 x22 x23 x24 x25 x26 x27 x28 x29 x30 x31 x32 x33) (a,b,acc) aEB:=by
 have hn:=sT hp hlt hor
 obtain⟨g1,g2,g3,g4,g5⟩:=hp
 simp only at g1 g2 g3 g4
 clear g5 hor
 have hk:=aI x32 (by omega) (by omega)
 have he:=aI x33 (by omega) (by omega)
 have er:∃ r,r=mS (gE [x0,x1,x2,x3,x4,x5,x6,x7,x8,x9,x10,x11,x12,x13,x14,x15,x16,x17,x18,x19,x20,x21,x22,x23,x24,x25,x26,x27,x28,x29,x30,x31] x33 1 (a:Int)) (gF [x0,x1,x2,x3,x4,x5,x6,x7,x8,x9,x10,x11,x12,x13,x14,x15,x16,x17,x18,x19,x20,x21,x22,x23,x24,x25,x26,x27,x28,x29,x30,x31] x32 1 ((b:Int)+1)) (gF [x0,x1,x2,x3,x4,x5,x6,x7,x8,x9,x10,x11,x12,x13,x14,x15,x16,x17,x18,x19,x20,x21,x22,x23,x24,x25,x26,x27,x28,x29,x30,x31] x32 1 (b:Int))∧r=[G 10 [x24,x26,x28,x30,(a:Int),x33],G 10 [x25,x27,x29,x31,(a:Int),x33],G 11 [x0,x2,x4,x6,x8,x10,x12,x14,x16,x18,x20,x22,x24,x26,x28,x30,((1*2 ^ x32.toNat)-1),((b:Int)+1),x32],G 11 [x1,x3,x5,x7,x9,x11,x13,x15,x17,x19,x21,x23,x25,x27,x29,x31,((1*2 ^ x32.toNat)-1),((b:Int)+1),x32],G 11 [x0,x2,x4,x6,x8,x10,x12,x14,x16,x18,x20,x22,x24,x26,x28,x30,((1*2 ^ x32.toNat)-1),(b:Int),x32],G 11 [x1,x3,x5,x7,x9,x11,x13,x15,x17,x19,x21,x23,x25,x27,x29,x31,((1*2 ^ x32.toNat)-1),(b:Int),x32],65536,(Int.fdiv 65536 (1*2 ^ x32.toNat)*((1*2 ^ x32.toNat)-1)),(Int.fdiv 65536 (1*2 ^ x32.toNat)*((1*2 ^ x32.toNat)-1)),(Int.fdiv 65536 (1*2 ^ x33.toNat)*(a:Int)),(Int.fdiv 65536 (1*2 ^ x32.toNat)*((b:Int)+1)),(Int.fdiv 65536 (1*2 ^ x32.toNat)*(b:Int))]:=⟨_,rfl,by
  have e0:mS (gE [x0,x1,x2,x3,x4,x5,x6,x7,x8,x9,x10,x11,x12,x13,x14,x15,x16,x17,x18,x19,x20,x21,x22,x23,x24,x25,x26,x27,x28,x29,x30,x31] x33 1 (a:Int)) (gF [x0,x1,x2,x3,x4,x5,x6,x7,x8,x9,x10,x11,x12,x13,x14,x15,x16,x17,x18,x19,x20,x21,x22,x23,x24,x25,x26,x27,x28,x29,x30,x31] x32 1 ((b:Int)+1)) (gF [x0,x1,x2,x3,x4,x5,x6,x7,x8,x9,x10,x11,x12,x13,x14,x15,x16,x17,x18,x19,x20,x21,x22,x23,x24,x25,x26,x27,x28,x29,x30,x31] x32 1 (b:Int))=[G 10 [x24,x26,x28,x30,(a:Int),x33],G 10 [x25,x27,x29,x31,(a:Int),x33],G 11 [x0,x2,x4,x6,x8,x10,x12,x14,x16,x18,x20,x22,x24,x26,x28,x30,((1*2 ^ x32.toNat)-1),((b:Int)+1),x32],G 11 [x1,x3,x5,x7,x9,x11,x13,x15,x17,x19,x21,x23,x25,x27,x29,x31,((1*2 ^ x32.toNat)-1),((b:Int)+1),x32],G 11 [x0,x2,x4,x6,x8,x10,x12,x14,x16,x18,x20,x22,x24,x26,x28,x30,((1*2 ^ x32.toNat)-1),(b:Int),x32],G 11 [x1,x3,x5,x7,x9,x11,x13,x15,x17,x19,x21,x23,x25,x27,x29,x31,((1*2 ^ x32.toNat)-1),(b:Int),x32],65536,(Int.fdiv 65536 (1*2 ^ x32.toNat)*((1*2 ^ x32.toNat)-1)),(Int.fdiv 65536 (1*2 ^ x32.toNat)*((1*2 ^ x32.toNat)-1)),(Int.fdiv 65536 (1*2 ^ x33.toNat)*(a:Int)),(Int.fdiv 65536 (1*2 ^ x32.toNat)*((b:Int)+1)),(Int.fdiv 65536 (1*2 ^ x32.toNat)*(b:Int))]:=rfl
  (try simp only[Int.mul_one]at e0)
  with_reducible exact e0⟩
 obtain⟨r,er,er'⟩:=er
 rw[←er]at hn
 have hm:dD x0 x1 x2 x3 x4 x5 x6 x7 x8 x9 x10 x11 x12 x13 x14 x15 x16 x17 x18 x19 x20 x21 x22 x23 x24 x25 x26 x27 x28 x29 x30 x31 x32 x33 (a,b+1,acc++[r])<dD x0 x1 x2 x3 x4 x5 x6 x7 x8 x9 x10 x11 x12 x13 x14 x15 x16 x17 x18 x19 x20 x21 x22 x23 x24 x25 x26 x27 x28 x29 x30 x31 x32 x33 (a,b,acc):=by
  unfold dD;simp only;omega
 have ec:G 91 [Lc.enc (bL [x0,x1,x2,x3,x4,x5,x6,x7,x8,x9,x10,x11,x12,x13,x14,x15,x16,x17,x18,x19,x20,x21,x22,x23,x24,x25,x26,x27,x28,x29,x30,x31] x32 x33 1 acc),G 10 [x24,x26,x28,x30,(a:Int),x33],G 10 [x25,x27,x29,x31,(a:Int),x33],G 11 [x0,x2,x4,x6,x8,x10,x12,x14,x16,x18,x20,x22,x24,x26,x28,x30,((1*2 ^ x32.toNat)-1),((b:Int)+1),x32],G 11 [x1,x3,x5,x7,x9,x11,x13,x15,x17,x19,x21,x23,x25,x27,x29,x31,((1*2 ^ x32.toNat)-1),((b:Int)+1),x32],G 11 [x0,x2,x4,x6,x8,x10,x12,x14,x16,x18,x20,x22,x24,x26,x28,x30,((1*2 ^ x32.toNat)-1),(b:Int),x32],G 11 [x1,x3,x5,x7,x9,x11,x13,x15,x17,x19,x21,x23,x25,x27,x29,x31,((1*2 ^ x32.toNat)-1),(b:Int),x32],65536,(Int.fdiv 65536 (1*2 ^ x32.toNat)*((1*2 ^ x32.toNat)-1)),(Int.fdiv 65536 (1*2 ^ x32.toNat)*((1*2 ^ x32.toNat)-1)),(Int.fdiv 65536 (1*2 ^ x33.toNat)*(a:Int)),(Int.fdiv 65536 (1*2 ^ x32.toNat)*((b:Int)+1)),(Int.fdiv 65536 (1*2 ^ x32.toNat)*(b:Int))]=Lc.enc (bL [x0,x1,x2,x3,x4,x5,x6,x7,x8,x9,x10,x11,x12,x13,x14,x15,x16,x17,x18,x19,x20,x21,x22,x23,x24,x25,x26,x27,x28,x29,x30,x31] x32 x33 1 (acc++[r])):=by
  rw[←dZ,←gU kC,er']
 have el:((bL [x0,x1,x2,x3,x4,x5,x6,x7,x8,x9,x10,x11,x12,x13,x14,x15,x16,x17,x18,x19,x20,x21,x22,x23,x24,x25,x26,x27,x28,x29,x30,x31] x32 x33 1 acc).length:Int)+1=((bL [x0,x1,x2,x3,x4,x5,x6,x7,x8,x9,x10,x11,x12,x13,x14,x15,x16,x17,x18,x19,x20,x21,x22,x23,x24,x25,x26,x27,x28,x29,x30,x31] x32 x33 1 (acc++[r])).length:Int):=by
  rw[←dZ,List.length_append];rfl
 unfold aEB
 simp only[aZ]
 refine⟨(a,b+1,acc++[r]),hn,hm,cP (by simp),?_⟩
 clear hn hm er er'
 simp only[aU]
 simp only[nn,aP,List.cons_append,List.nil_append,aV]at ec el ⊢
 (repeat' refine And.intro ?_ ?_)<;>first|with_reducible exact ec|with_reducible exact el|with_reducible rfl|with_reducible trivial|omega
set_option maxHeartbeats 2000000 in
set_option maxRecDepth 100000 in
theorem aMD (x0 x1 x2 x3 x4 x5 x6 x7 x8 x9 x10 x11 x12 x13 x14 x15 x16 x17 x18 x19 x20 x21 x22 x23 x24 x25 x26 x27 x28 x29 x30 x31 x32 x33:Int) (b0:zzf x0) (b1:zzf x1) (b2:zzf x2) (b3:zzf x3) (b4:zzf x4) (b5:zzf x5) (b6:zzf x6) (b7:zzf x7) (b8:zzf x8) (b9:zzf x9) (b10:zzf x10) (b11:zzf x11) (b12:zzf x12) (b13:zzf x13) (b14:zzf x14) (b15:zzf x15) (b16:zzf x16) (b17:zzf x17) (b18:zzf x18) (b19:zzf x19) (b20:zzf x20) (b21:zzf x21) (b22:zzf x22) (b23:zzf x23) (b24:zzf x24) (b25:zzf x25) (b26:zzf x26) (b27:zzf x27) (b28:zzf x28) (b29:zzf x29) (b30:zzf x30) (b31:zzf x31) (b32:1≤x32∧x32≤6) (b33:1≤x33∧x33≤6) (p:Nat × Nat × List (List Int)) (hp:eD [x0,x1,x2,x3,x4,x5,x6,x7,x8,x9,x10,x11,x12,x13,x14,x15,x16,x17,x18,x19,x20,x21,x22,x23,x24,x25,x26,x27,x28,x29,x30,x31] x32 x33 1 p):Sx.sC (rA Try.prog) G (aP 1 x0 x1 x2 x3 x4 x5 x6 x7 x8 x9 x10 x11 x12 x13 x14 x15 x16 x17 x18 x19 x20 x21 x22 x23 x24 x25 x26 x27 x28 x29 x30 x31 x32 x33 p) (aZ G (aP 1 x0 x1 x2 x3 x4 x5 x6 x7 x8 x9 x10 x11 x12 x13 x14 x15 x16 x17 x18 x19 x20 x21 x22 x23 x24 x25 x26 x27 x28 x29 x30 x31 x32 x33) (dJ ([x0,x1,x2,x3,x4,x5,x6,x7,x8,x9,x10,x11,x12,x13,x14,x15,x16,x17,x18,x19,x20,x21,x22,x23,x24,x25,x26,x27,x28,x29,x30,x31,x32,x33]:List Int)) 34 (.lit true) (eD [x0,x1,x2,x3,x4,x5,x6,x7,x8,x9,x10,x11,x12,x13,x14,x15,x16,x17,x18,x19,x20,x21,x22,x23,x24,x25,x26,x27,x28,x29,x30,x31] x32 x33 1) (dD x0 x1 x2 x3 x4 x5 x6 x7 x8 x9 x10 x11 x12 x13 x14 x15 x16 x17 x18 x19 x20 x21 x22 x23 x24 x25 x26 x27 x28 x29 x30 x31 x32 x33) p) []:=by
 obtain⟨a,b,acc⟩:=p
 refine aG jM (fun h0=>?_) (fun h0=>?_)
 rotate_left
 ·skip
  refine aG rD (fun h1=>?_) (fun h1=>?_)
  rotate_left
  ·skip
   refine aH aS9 ?_
   unfold jM at h0;unfold rD at h1;unfold aQk;have hg:=hp;obtain⟨g1,g2,g3,g4,g5⟩:=hp;simp only at g1 g2 g3 g4;clear g5;have hk:=aI x32 (by omega) (by omega);have he:=aI x33 (by omega) (by omega);simp only[nn,aP,List.cons_append,List.nil_append,aV]at h0 h1;simp only[cW]at h0 h1;have e1:¬(a:Int)<p2 x33:=(by omega);have e2:¬(b:Int)<p2 x32-1:=(by omega);have ee:=pR hg e1 e2;have hl:=fG (xs:=[x0,x1,x2,x3,x4,x5,x6,x7,x8,x9,x10,x11,x12,x13,x14,x15,x16,x17,x18,x19,x20,x21,x22,x23,x24,x25,x26,x27,x28,x29,x30,x31]) b32 b33 2;clear h0 h1 hg;simp only[aZ];refine⟨rfl,gA (by simp),?_⟩;have ec:Lc.enc (bL [x0,x1,x2,x3,x4,x5,x6,x7,x8,x9,x10,x11,x12,x13,x14,x15,x16,x17,x18,x19,x20,x21,x22,x23,x24,x25,x26,x27,x28,x29,x30,x31] x32 x33 1 acc)=G 42 [x0,x1,x2,x3,x4,x5,x6,x7,x8,x9,x10,x11,x12,x13,x14,x15,x16,x17,x18,x19,x20,x21,x22,x23,x24,x25,x26,x27,x28,x29,x30,x31,x32,x33,2]:=(by rw[ee];rfl);have el:((bL [x0,x1,x2,x3,x4,x5,x6,x7,x8,x9,x10,x11,x12,x13,x14,x15,x16,x17,x18,x19,x20,x21,x22,x23,x24,x25,x26,x27,x28,x29,x30,x31] x32 x33 1 acc).length:Int)=(((2*((1*2 ^ x32.toNat)-2))*((1*2 ^ x32.toNat)-2))+(2*(((1*2 ^ x33.toNat)+(1*2 ^ x32.toNat))-2))):=(by rw[ee,hl];simp only[cW];push_cast;omega);simp only[aU];simp only[nn,aP,List.cons_append,List.nil_append,aV]at ec el ⊢;(repeat' refine And.intro ?_ ?_)<;>first|with_reducible exact ec|with_reducible exact el|with_reducible rfl|with_reducible trivial
  refine aG xG (fun h2=>?_) (fun h2=>?_)
  rotate_left
  ·skip
   refine aM ?_
   unfold jM at h0;unfold rD at h1;unfold xG at h2;obtain⟨g1,g2,g3,g4,g5⟩:=hp;simp only at g1 g2 g3 g4;clear g5;have hk:=aI x32 (by omega) (by omega);have he:=aI x33 (by omega) (by omega);simp only[nn,aP,List.cons_append,List.nil_append,aV]at *;(try simp only[Bool.eq_false_iff,ne_eq,Bool.and_eq_true,decide_eq_true_eq]at *);(try simp only[cW]at *);omega
  refine aG oS (fun h3=>?_) (fun h3=>?_)
  rotate_left
  ·skip
   refine aM ?_
   unfold jM at h0;unfold rD at h1;unfold xG at h2;unfold oS at h3;clear h2;obtain⟨g1,g2,g3,g4,g5⟩:=hp;simp only at g1 g2 g3 g4;clear g5;have hk:=aI x32 (by omega) (by omega);have he:=aI x33 (by omega) (by omega);simp only[nn,aP,List.cons_append,List.nil_append,aV]at *;(try simp only[Bool.eq_false_iff,ne_eq,Bool.and_eq_true,decide_eq_true_eq]at *);(try simp only[cW]at *);omega
  refine aG kI (fun h4=>?_) (fun h4=>?_)
  ·skip
   refine aH aTt ?_
   unfold jM at h0;unfold rD at h1;unfold xG at h2;unfold oS at h3;unfold kI at h4;clear h3 h4;have hg:=hp;obtain⟨g1,g2,g3,g4,g5⟩:=hp;simp only at g1 g2 g3 g4;clear g5;have hk:=aI x32 (by omega) (by omega);have he:=aI x33 (by omega) (by omega);simp only[nn,aP,List.cons_append,List.nil_append,aV]at h0 h1 h2;(try simp only[cW]at h0 h1 h2);exact yD x0 x1 x2 x3 x4 x5 x6 x7 x8 x9 x10 x11 x12 x13 x14 x15 x16 x17 x18 x19 x20 x21 x22 x23 x24 x25 x26 x27 x28 x29 x30 x31 x32 x33 b0 b1 b2 b3 b4 b5 b6 b7 b8 b9 b10 b11 b12 b13 b14 b15 b16 b17 b18 b19 b20 b21 b22 b23 b24 b25 b26 b27 b28 b29 b30 b31 b32 b33 a b acc hg (by omega) (by omega)
  refine aM ?_
  unfold jM at h0;unfold rD at h1;unfold xG at h2;unfold oS at h3;unfold kI at h4;clear h2 h3;obtain⟨g1,g2,g3,g4,g5⟩:=hp;simp only at g1 g2 g3 g4;clear g5;have hk:=aI x32 (by omega) (by omega);have he:=aI x33 (by omega) (by omega);simp only[nn,aP,List.cons_append,List.nil_append,aV]at *;(try simp only[Bool.eq_false_iff,ne_eq,Bool.and_eq_true,decide_eq_true_eq]at *);(try simp only[cW]at *);omega
 refine aG mJ (fun h1=>?_) (fun h1=>?_)
 ·skip
  refine aG oE (fun h2=>?_) (fun h2=>?_)
  rotate_left
  ·skip
   refine aM ?_
   unfold jM at h0;unfold mJ at h1;unfold oE at h2;obtain⟨g1,g2,g3,g4,g5⟩:=hp;simp only at g1 g2 g3 g4;clear g5;have hk:=aI x32 (by omega) (by omega);have he:=aI x33 (by omega) (by omega);simp only[nn,aP,List.cons_append,List.nil_append,aV]at *;(try simp only[Bool.eq_false_iff,ne_eq,Bool.and_eq_true,decide_eq_true_eq]at *);(try simp only[cW]at *);omega
  refine aG kI (fun h3=>?_) (fun h3=>?_)
  ·skip
   refine aH aVQ ?_
   unfold jM at h0;unfold mJ at h1;unfold oE at h2;unfold kI at h3;clear h2 h3;have hg:=hp;obtain⟨g1,g2,g3,g4,g5⟩:=hp;simp only at g1 g2 g3 g4;clear g5;have hk:=aI x32 (by omega) (by omega);have he:=aI x33 (by omega) (by omega);simp only[nn,aP,List.cons_append,List.nil_append,aV]at h0 h1;(try simp only[cW]at h0 h1);exact xU x0 x1 x2 x3 x4 x5 x6 x7 x8 x9 x10 x11 x12 x13 x14 x15 x16 x17 x18 x19 x20 x21 x22 x23 x24 x25 x26 x27 x28 x29 x30 x31 x32 x33 b0 b1 b2 b3 b4 b5 b6 b7 b8 b9 b10 b11 b12 b13 b14 b15 b16 b17 b18 b19 b20 b21 b22 b23 b24 b25 b26 b27 b28 b29 b30 b31 b32 b33 a b acc hg (by omega) (by omega)
  refine aM ?_
  unfold jM at h0;unfold mJ at h1;unfold oE at h2;unfold kI at h3;clear h2;obtain⟨g1,g2,g3,g4,g5⟩:=hp;simp only at g1 g2 g3 g4;clear g5;have hk:=aI x32 (by omega) (by omega);have he:=aI x33 (by omega) (by omega);simp only[nn,aP,List.cons_append,List.nil_append,aV]at *;(try simp only[Bool.eq_false_iff,ne_eq,Bool.and_eq_true,decide_eq_true_eq]at *);(try simp only[cW]at *);omega
 refine aG qF (fun h2=>?_) (fun h2=>?_)
 ·skip
  refine aG oE (fun h3=>?_) (fun h3=>?_)
  rotate_left
  ·skip
   refine aM ?_
   unfold jM at h0;unfold mJ at h1;unfold qF at h2;unfold oE at h3;clear h2;obtain⟨g1,g2,g3,g4,g5⟩:=hp;simp only at g1 g2 g3 g4;clear g5;have hk:=aI x32 (by omega) (by omega);have he:=aI x33 (by omega) (by omega);simp only[nn,aP,List.cons_append,List.nil_append,aV]at *;(try simp only[Bool.eq_false_iff,ne_eq,Bool.and_eq_true,decide_eq_true_eq]at *);(try simp only[cW]at *);omega
  refine aG kI (fun h4=>?_) (fun h4=>?_)
  ·skip
   refine aH aR1 ?_
   unfold jM at h0;unfold mJ at h1;unfold qF at h2;unfold oE at h3;unfold kI at h4;clear h3 h4;have hg:=hp;obtain⟨g1,g2,g3,g4,g5⟩:=hp;simp only at g1 g2 g3 g4;clear g5;have hk:=aI x32 (by omega) (by omega);have he:=aI x33 (by omega) (by omega);simp only[nn,aP,List.cons_append,List.nil_append,aV]at h0 h1 h2;(try simp only[cW]at h0 h1 h2);exact xU x0 x1 x2 x3 x4 x5 x6 x7 x8 x9 x10 x11 x12 x13 x14 x15 x16 x17 x18 x19 x20 x21 x22 x23 x24 x25 x26 x27 x28 x29 x30 x31 x32 x33 b0 b1 b2 b3 b4 b5 b6 b7 b8 b9 b10 b11 b12 b13 b14 b15 b16 b17 b18 b19 b20 b21 b22 b23 b24 b25 b26 b27 b28 b29 b30 b31 b32 b33 a b acc hg (by omega) (by omega)
  refine aM ?_
  unfold jM at h0;unfold mJ at h1;unfold qF at h2;unfold oE at h3;unfold kI at h4;clear h2 h3;obtain⟨g1,g2,g3,g4,g5⟩:=hp;simp only at g1 g2 g3 g4;clear g5;have hk:=aI x32 (by omega) (by omega);have he:=aI x33 (by omega) (by omega);simp only[nn,aP,List.cons_append,List.nil_append,aV]at *;(try simp only[Bool.eq_false_iff,ne_eq,Bool.and_eq_true,decide_eq_true_eq]at *);(try simp only[cW]at *);omega
 refine aG oS (fun h3=>?_) (fun h3=>?_)
 rotate_left
 ·skip
  refine aM ?_
  unfold jM at h0;unfold mJ at h1;unfold qF at h2;unfold oS at h3;clear h2;obtain⟨g1,g2,g3,g4,g5⟩:=hp;simp only at g1 g2 g3 g4;clear g5;have hk:=aI x32 (by omega) (by omega);have he:=aI x33 (by omega) (by omega);simp only[nn,aP,List.cons_append,List.nil_append,aV]at *;(try simp only[Bool.eq_false_iff,ne_eq,Bool.and_eq_true,decide_eq_true_eq]at *);(try simp only[cW]at *);omega
 refine aG kI (fun h4=>?_) (fun h4=>?_)
 ·skip
  refine aH aTr ?_
  unfold jM at h0;unfold mJ at h1;unfold qF at h2;unfold oS at h3;unfold kI at h4;clear h3 h4;have hg:=hp;obtain⟨g1,g2,g3,g4,g5⟩:=hp;simp only at g1 g2 g3 g4;clear g5;have hk:=aI x32 (by omega) (by omega);have he:=aI x33 (by omega) (by omega);simp only[nn,aP,List.cons_append,List.nil_append,aV]at h0 h1 h2;(try simp only[cW]at h0 h1 h2);exact yD x0 x1 x2 x3 x4 x5 x6 x7 x8 x9 x10 x11 x12 x13 x14 x15 x16 x17 x18 x19 x20 x21 x22 x23 x24 x25 x26 x27 x28 x29 x30 x31 x32 x33 b0 b1 b2 b3 b4 b5 b6 b7 b8 b9 b10 b11 b12 b13 b14 b15 b16 b17 b18 b19 b20 b21 b22 b23 b24 b25 b26 b27 b28 b29 b30 b31 b32 b33 a b acc hg (by omega) (by omega)
 refine aM ?_
 unfold jM at h0;unfold mJ at h1;unfold qF at h2;unfold oS at h3;unfold kI at h4;clear h2 h3;obtain⟨g1,g2,g3,g4,g5⟩:=hp;simp only at g1 g2 g3 g4;clear g5;have hk:=aI x32 (by omega) (by omega);have he:=aI x33 (by omega) (by omega);simp only[nn,aP,List.cons_append,List.nil_append,aV]at *;(try simp only[Bool.eq_false_iff,ne_eq,Bool.and_eq_true,decide_eq_true_eq]at *);(try simp only[cW]at *);omega
set_option maxRecDepth 100000
open Go Go.RowKit Sx Wi
def aGc (P:Program) (fs:List B):Res SV:=qV P fs
def aQY:List B:=[]
def jL:B:=(.cmp .lt (.var 34) (.op .shl (.lit 1) (.var 33)))
def aPQ:List B:=aK jL++aQY
def mL:B:=(.cmp .eq (.var 35) (.op .sub (.op .shl (.lit 1) (.var 32)) (.lit 1)))
def aVx:List B:=aK mL++aPQ
def oR:B:=(.and (.cmp .le (.lit 0) (.var 33)) (.and (.cmp .le (.var 33) (.lit 6)) (.and (.cmp .le (.lit 0) (.op .add (.var 34) (.lit 1))) (.and (.cmp .le (.op .add (.var 34) (.lit 1)) (.op .shl (.lit 1) (.var 33))) (.and (.cmp .le (.lit (-1099511627776)) (.var 30)) (.and (.cmp .le (.var 30) (.lit 1099511627776)) (.and (.cmp .le (.lit (-1099511627776)) (.var 31)) (.and (.cmp .le (.var 31) (.lit 1099511627776)) (.and (.cmp .le (.lit (-1099511627776)) (.var 22)) (.and (.cmp .le (.var 22) (.lit 1099511627776)) (.and (.cmp .le (.lit (-1099511627776)) (.var 23)) (.and (.cmp .le (.var 23) (.lit 1099511627776)) (.and (.cmp .le (.lit (-1099511627776)) (.var 14)) (.and (.cmp .le (.var 14) (.lit 1099511627776)) (.and (.cmp .le (.lit (-1099511627776)) (.var 15)) (.and (.cmp .le (.var 15) (.lit 1099511627776)) (.and (.cmp .le (.lit (-1099511627776)) (.var 6)) (.and (.cmp .le (.var 6) (.lit 1099511627776)) (.and (.cmp .le (.lit (-1099511627776)) (.var 7)) (.cmp .le (.var 7) (.lit 1099511627776)))))))))))))))))))))
def aVm:List B:=aK oR++aVx
def kE:B:=(.and (.cmp .le (.lit 0) (.var 32)) (.and (.cmp .le (.var 32) (.lit 6)) (.and (.cmp .le (.lit 0) (.op .sub (.op .shl (.lit 1) (.var 32)) (.var 35))) (.and (.cmp .le (.op .sub (.op .shl (.lit 1) (.var 32)) (.var 35)) (.op .shl (.lit 1) (.var 32))) (.and (.cmp .le (.lit 0) (.op .sub (.op .shl (.lit 1) (.var 32)) (.lit 1))) (.and (.cmp .le (.op .sub (.op .shl (.lit 1) (.var 32)) (.lit 1)) (.op .shl (.lit 1) (.var 32))) zzG))))))
def aVi:List B:=aK kE++aVm
def aCH:SV:=(.agg [(.int .i64 (.op .add (.var 34) (.lit 1))),(.int .i64 (.var 34)),(.int .i64 (.var 35)),(.int .i64 (.var 35)),(.int .i64 (.op .add (.var 36) (.lit 1))),(.int .i64 (.var 36)),(.int .i64 (.app 91 (.cons (.var 37) (.cons (.app 10 (.cons (.var 30) (.cons (.var 22) (.cons (.var 14) (.cons (.var 6) (.cons (.var 34) (.cons (.var 33) .nil))))))) (.cons (.app 10 (.cons (.var 31) (.cons (.var 23) (.cons (.var 15) (.cons (.var 7) (.cons (.var 34) (.cons (.var 33) .nil))))))) (.cons (.app 10 (.cons (.var 30) (.cons (.var 22) (.cons (.var 14) (.cons (.var 6) (.cons (.op .add (.var 34) (.lit 1)) (.cons (.var 33) .nil))))))) (.cons (.app 10 (.cons (.var 31) (.cons (.var 23) (.cons (.var 15) (.cons (.var 7) (.cons (.op .add (.var 34) (.lit 1)) (.cons (.var 33) .nil))))))) (.cons (.app 11 (.cons (.var 0) (.cons (.var 2) (.cons (.var 4) (.cons (.var 6) (.cons (.var 8) (.cons (.var 10) (.cons (.var 12) (.cons (.var 14) (.cons (.var 16) (.cons (.var 18) (.cons (.var 20) (.cons (.var 22) (.cons (.var 24) (.cons (.var 26) (.cons (.var 28) (.cons (.var 30) (.cons (.op .sub (.op .shl (.lit 1) (.var 32)) (.var 35)) (.cons (.op .sub (.op .shl (.lit 1) (.var 32)) (.lit 1)) (.cons (.var 32) .nil)))))))))))))))))))) (.cons (.app 11 (.cons (.var 1) (.cons (.var 3) (.cons (.var 5) (.cons (.var 7) (.cons (.var 9) (.cons (.var 11) (.cons (.var 13) (.cons (.var 15) (.cons (.var 17) (.cons (.var 19) (.cons (.var 21) (.cons (.var 23) (.cons (.var 25) (.cons (.var 27) (.cons (.var 29) (.cons (.var 31) (.cons (.op .sub (.op .shl (.lit 1) (.var 32)) (.var 35)) (.cons (.op .sub (.op .shl (.lit 1) (.var 32)) (.lit 1)) (.cons (.var 32) .nil)))))))))))))))))))) (.cons (.op .sub (.lit 65536) (.op .mul (.op .fdiv (.lit 65536) (.op .shl (.lit 1) (.var 33))) (.var 34))) (.cons (.op .sub (.lit 65536) (.op .mul (.op .fdiv (.lit 65536) (.op .shl (.lit 1) (.var 33))) (.op .add (.var 34) (.lit 1)))) (.cons (.op .mul (.op .fdiv (.lit 65536) (.op .shl (.lit 1) (.var 32))) (.op .sub (.op .shl (.lit 1) (.var 32)) (.var 35))) (.cons (.lit 65536) (.cons (.lit 65536) (.cons (.op .mul (.op .fdiv (.lit 65536) (.op .shl (.lit 1) (.var 32))) (.op .sub (.op .shl (.lit 1) (.var 32)) (.lit 1))) .nil))))))))))))))),(.int .i64 (.var 37)),(.int .i64 (.op .add (.var 36) (.lit 1))),(.int .i64 (.var 36))])
def aM3:List B:=aK (B.neg mL)++aPQ
def pS:B:=(.cmp .le (.op .mul (.op .add (.op .mul (.lit 2) (.var 34)) (.lit 1)) (.op .shl (.lit 1) (.var 32))) (.op .mul (.op .add (.op .mul (.lit 2) (.var 35)) (.lit 1)) (.op .shl (.lit 1) (.var 33))))
def aVF:List B:=aK pS++aM3
def aUk:List B:=aK oR++aVF
def aTh:List B:=aK kE++aUk
def aRJ:List B:=aK (B.neg pS)++aM3
def oO:B:=(.and (.cmp .le (.lit 0) (.var 32)) (.and (.cmp .le (.var 32) (.lit 6)) (.and (.cmp .le (.lit 0) (.op .sub (.op .shl (.lit 1) (.var 32)) (.op .add (.var 35) (.lit 1)))) (.and (.cmp .le (.op .sub (.op .shl (.lit 1) (.var 32)) (.op .add (.var 35) (.lit 1))) (.op .shl (.lit 1) (.var 32))) (.and (.cmp .le (.lit 0) (.op .sub (.op .shl (.lit 1) (.var 32)) (.lit 1))) (.and (.cmp .le (.op .sub (.op .shl (.lit 1) (.var 32)) (.lit 1)) (.op .shl (.lit 1) (.var 32))) zzG))))))
def aR8:List B:=aK oO++aRJ
def aSq:List B:=aK kE++aR8
def aDA:SV:=(.agg [(.int .i64 (.var 34)),(.int .i64 (.var 34)),(.int .i64 (.op .add (.var 35) (.lit 1))),(.int .i64 (.var 35)),(.int .i64 (.op .add (.var 36) (.lit 1))),(.int .i64 (.var 36)),(.int .i64 (.app 91 (.cons (.var 37) (.cons (.app 10 (.cons (.var 30) (.cons (.var 22) (.cons (.var 14) (.cons (.var 6) (.cons (.var 34) (.cons (.var 33) .nil))))))) (.cons (.app 10 (.cons (.var 31) (.cons (.var 23) (.cons (.var 15) (.cons (.var 7) (.cons (.var 34) (.cons (.var 33) .nil))))))) (.cons (.app 11 (.cons (.var 0) (.cons (.var 2) (.cons (.var 4) (.cons (.var 6) (.cons (.var 8) (.cons (.var 10) (.cons (.var 12) (.cons (.var 14) (.cons (.var 16) (.cons (.var 18) (.cons (.var 20) (.cons (.var 22) (.cons (.var 24) (.cons (.var 26) (.cons (.var 28) (.cons (.var 30) (.cons (.op .sub (.op .shl (.lit 1) (.var 32)) (.op .add (.var 35) (.lit 1))) (.cons (.op .sub (.op .shl (.lit 1) (.var 32)) (.lit 1)) (.cons (.var 32) .nil)))))))))))))))))))) (.cons (.app 11 (.cons (.var 1) (.cons (.var 3) (.cons (.var 5) (.cons (.var 7) (.cons (.var 9) (.cons (.var 11) (.cons (.var 13) (.cons (.var 15) (.cons (.var 17) (.cons (.var 19) (.cons (.var 21) (.cons (.var 23) (.cons (.var 25) (.cons (.var 27) (.cons (.var 29) (.cons (.var 31) (.cons (.op .sub (.op .shl (.lit 1) (.var 32)) (.op .add (.var 35) (.lit 1))) (.cons (.op .sub (.op .shl (.lit 1) (.var 32)) (.lit 1)) (.cons (.var 32) .nil)))))))))))))))))))) (.cons (.app 11 (.cons (.var 0) (.cons (.var 2) (.cons (.var 4) (.cons (.var 6) (.cons (.var 8) (.cons (.var 10) (.cons (.var 12) (.cons (.var 14) (.cons (.var 16) (.cons (.var 18) (.cons (.var 20) (.cons (.var 22) (.cons (.var 24) (.cons (.var 26) (.cons (.var 28) (.cons (.var 30) (.cons (.op .sub (.op .shl (.lit 1) (.var 32)) (.var 35)) (.cons (.op .sub (.op .shl (.lit 1) (.var 32)) (.lit 1)) (.cons (.var 32) .nil)))))))))))))))))))) (.cons (.app 11 (.cons (.var 1) (.cons (.var 3) (.cons (.var 5) (.cons (.var 7) (.cons (.var 9) (.cons (.var 11) (.cons (.var 13) (.cons (.var 15) (.cons (.var 17) (.cons (.var 19) (.cons (.var 21) (.cons (.var 23) (.cons (.var 25) (.cons (.var 27) (.cons (.var 29) (.cons (.var 31) (.cons (.op .sub (.op .shl (.lit 1) (.var 32)) (.var 35)) (.cons (.op .sub (.op .shl (.lit 1) (.var 32)) (.lit 1)) (.cons (.var 32) .nil)))))))))))))))))))) (.cons (.op .sub (.lit 65536) (.op .mul (.op .fdiv (.lit 65536) (.op .shl (.lit 1) (.var 33))) (.var 34))) (.cons (.op .mul (.op .fdiv (.lit 65536) (.op .shl (.lit 1) (.var 32))) (.op .sub (.op .shl (.lit 1) (.var 32)) (.op .add (.var 35) (.lit 1)))) (.cons (.op .mul (.op .fdiv (.lit 65536) (.op .shl (.lit 1) (.var 32))) (.op .sub (.op .shl (.lit 1) (.var 32)) (.var 35))) (.cons (.lit 65536) (.cons (.op .mul (.op .fdiv (.lit 65536) (.op .shl (.lit 1) (.var 32))) (.op .sub (.op .shl (.lit 1) (.var 32)) (.lit 1))) (.cons (.op .mul (.op .fdiv (.lit 65536) (.op .shl (.lit 1) (.var 32))) (.op .sub (.op .shl (.lit 1) (.var 32)) (.lit 1))) .nil))))))))))))))),(.int .i64 (.var 37)),(.int .i64 (.op .add (.var 36) (.lit 1))),(.int .i64 (.var 36))])
def aJv:List B:=aK (B.neg jL)++aQY
def rS:B:=(.cmp .lt (.var 35) (.op .sub (.op .shl (.lit 1) (.var 32)) (.lit 1)))
def aS1:List B:=aK rS++aJv
def wQ:B:=(.and (.cmp .le (.lit 0) (.var 33)) (.and (.cmp .le (.var 33) (.lit 6)) (.and (.cmp .le (.lit 0) (.var 34)) (.and (.cmp .le (.var 34) (.op .shl (.lit 1) (.var 33))) (.and (.cmp .le (.lit (-1099511627776)) (.var 30)) (.and (.cmp .le (.var 30) (.lit 1099511627776)) (.and (.cmp .le (.lit (-1099511627776)) (.var 31)) (.and (.cmp .le (.var 31) (.lit 1099511627776)) (.and (.cmp .le (.lit (-1099511627776)) (.var 22)) (.and (.cmp .le (.var 22) (.lit 1099511627776)) (.and (.cmp .le (.lit (-1099511627776)) (.var 23)) (.and (.cmp .le (.var 23) (.lit 1099511627776)) (.and (.cmp .le (.lit (-1099511627776)) (.var 14)) (.and (.cmp .le (.var 14) (.lit 1099511627776)) (.and (.cmp .le (.lit (-1099511627776)) (.var 15)) (.and (.cmp .le (.var 15) (.lit 1099511627776)) (.and (.cmp .le (.lit (-1099511627776)) (.var 6)) (.and (.cmp .le (.var 6) (.lit 1099511627776)) (.and (.cmp .le (.lit (-1099511627776)) (.var 7)) (.cmp .le (.var 7) (.lit 1099511627776)))))))))))))))))))))
def aSX:List B:=aK wQ++aS1
def aSl:List B:=aK oO++aSX
def aRs:List B:=aK kE++aSl
def aRm:List B:=aK (B.neg rS)++aJv
def aOr:SV:=(.tuple [(.agg [(.int .i64 (.var 36)),(.int .i64 (.op .add (.op .mul (.op .mul (.lit 2) (.op .sub (.op .shl (.lit 1) (.var 32)) (.lit 2))) (.op .sub (.op .shl (.lit 1) (.var 32)) (.lit 2))) (.op .mul (.lit 3) (.op .sub (.op .add (.op .shl (.lit 1) (.var 33)) (.op .shl (.lit 1) (.var 32))) (.lit 2))))),(.int .i64 (.var 37)),(.int .i64 (.app 42 (.cons (.var 0) (.cons (.var 1) (.cons (.var 2) (.cons (.var 3) (.cons (.var 4) (.cons (.var 5) (.cons (.var 6) (.cons (.var 7) (.cons (.var 8) (.cons (.var 9) (.cons (.var 10) (.cons (.var 11) (.cons (.var 12) (.cons (.var 13) (.cons (.var 14) (.cons (.var 15) (.cons (.var 16) (.cons (.var 17) (.cons (.var 18) (.cons (.var 19) (.cons (.var 20) (.cons (.var 21) (.cons (.var 22) (.cons (.var 23) (.cons (.var 24) (.cons (.var 25) (.cons (.var 26) (.cons (.var 27) (.cons (.var 28) (.cons (.var 29) (.cons (.var 30) (.cons (.var 31) (.cons (.var 32) (.cons (.var 33) (.cons (.lit 3) .nil))))))))))))))))))))))))))))))))))))),(.int .i64 (.var 36)),(.int .i64 (.op .add (.op .mul (.op .mul (.lit 2) (.op .sub (.op .shl (.lit 1) (.var 32)) (.lit 2))) (.op .sub (.op .shl (.lit 1) (.var 32)) (.lit 2))) (.op .mul (.lit 3) (.op .sub (.op .add (.op .shl (.lit 1) (.var 33)) (.op .shl (.lit 1) (.var 32))) (.lit 2)))))]),(.bool (.lit true))])
theorem aUs:aGc Try.prog aVi = .ok aCH:=by kernel_rfl
theorem aRh:aGc Try.prog aTh = .ok aCH:=by kernel_rfl
theorem aSC:aGc Try.prog aSq = .ok aDA:=by kernel_rfl
theorem aTs:aGc Try.prog aRs = .ok aDA:=by kernel_rfl
theorem aRA:aGc Try.prog aRm = .ok aOr:=by kernel_rfl
end Go.Proofs.Ytkpdiehbaiepaaa
