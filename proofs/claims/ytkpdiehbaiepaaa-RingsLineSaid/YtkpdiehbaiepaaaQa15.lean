/- What is proved: the run of a function over its ways,and what is known on each. No condition. -/
import Derived.Test.YtkpdiehbaiepaaaQa13
import Derived.Test.YtkpdiehbaiepaaaQNn
import Derived.Test.YtkpdiehbaiepaaaQa14
import Derived.Test.YtkpdiehbaiepaaaQa1
set_option linter.unusedSimpArgs false
set_option linter.unusedVariables false
set_option maxRecDepth 100000
namespace Go.Proofs.Ytkpdiehbaiepaaa
open Go Go.RowKit Sx Wi
def iA (P:Program) (fs:List B):Res SV:=aRu P fs
def aSI:List B:=[]
def aQW:B:=(.cmp .le (.lit 1) (.var 32))
def aSt:List B:=aH aQW++aSI
def aQa:B:=(.cmp .lt (.lit 6) (.var 32))
def bCf:List B:=aH aQa++aSt
def aTA:List B:=aH (B.neg aQa)++aSt
def aR6:B:=(.and (.cmp .le (.lit (-1099511627776)) (.var 0)) (.and (.cmp .le (.var 0) (.lit 1099511627776)) (.and (.cmp .le (.lit (-1099511627776)) (.var 1)) (.cmp .le (.var 1) (.lit 1099511627776)))))
def aP3:List B:=aH aR6++aTA
def aTy:B:=(.and (.cmp .le (.lit (-1099511627776)) (.var 2)) (.and (.cmp .le (.var 2) (.lit 1099511627776)) (.and (.cmp .le (.lit (-1099511627776)) (.var 3)) (.cmp .le (.var 3) (.lit 1099511627776)))))
def aQh:List B:=aH aTy++aP3
def aTi:B:=(.and (.cmp .le (.lit (-1099511627776)) (.var 4)) (.and (.cmp .le (.var 4) (.lit 1099511627776)) (.and (.cmp .le (.lit (-1099511627776)) (.var 5)) (.cmp .le (.var 5) (.lit 1099511627776)))))
def aO2:List B:=aH aTi++aQh
def aR8:B:=(.and (.cmp .le (.lit (-1099511627776)) (.var 6)) (.and (.cmp .le (.var 6) (.lit 1099511627776)) (.and (.cmp .le (.lit (-1099511627776)) (.var 7)) (.cmp .le (.var 7) (.lit 1099511627776)))))
def aRr:List B:=aH aR8++aO2
def aUn:B:=(.and (.cmp .le (.lit (-1099511627776)) (.var 8)) (.and (.cmp .le (.var 8) (.lit 1099511627776)) (.and (.cmp .le (.lit (-1099511627776)) (.var 9)) (.cmp .le (.var 9) (.lit 1099511627776)))))
def aVD:List B:=aH aUn++aRr
def aTd:B:=(.and (.cmp .le (.lit (-1099511627776)) (.var 10)) (.and (.cmp .le (.var 10) (.lit 1099511627776)) (.and (.cmp .le (.lit (-1099511627776)) (.var 11)) (.cmp .le (.var 11) (.lit 1099511627776)))))
def aUm:List B:=aH aTd++aVD
def aRd:B:=(.and (.cmp .le (.lit (-1099511627776)) (.var 12)) (.and (.cmp .le (.var 12) (.lit 1099511627776)) (.and (.cmp .le (.lit (-1099511627776)) (.var 13)) (.cmp .le (.var 13) (.lit 1099511627776)))))
def aKb:List B:=aH aRd++aUm
def aLg:B:=(.and (.cmp .le (.lit (-1099511627776)) (.var 14)) (.and (.cmp .le (.var 14) (.lit 1099511627776)) (.and (.cmp .le (.lit (-1099511627776)) (.var 15)) (.cmp .le (.var 15) (.lit 1099511627776)))))
def aLn:List B:=aH aLg++aKb
def aLR:B:=(.and (.cmp .le (.lit (-1099511627776)) (.var 16)) (.and (.cmp .le (.var 16) (.lit 1099511627776)) (.and (.cmp .le (.lit (-1099511627776)) (.var 17)) (.cmp .le (.var 17) (.lit 1099511627776)))))
def aLu:List B:=aH aLR++aLn
def aLZ:B:=(.and (.cmp .le (.lit (-1099511627776)) (.var 18)) (.and (.cmp .le (.var 18) (.lit 1099511627776)) (.and (.cmp .le (.lit (-1099511627776)) (.var 19)) (.cmp .le (.var 19) (.lit 1099511627776)))))
def aMn:List B:=aH aLZ++aLu
def aLO:B:=(.and (.cmp .le (.lit (-1099511627776)) (.var 20)) (.and (.cmp .le (.var 20) (.lit 1099511627776)) (.and (.cmp .le (.lit (-1099511627776)) (.var 21)) (.cmp .le (.var 21) (.lit 1099511627776)))))
def aLm:List B:=aH aLO++aMn
def aKC:B:=(.and (.cmp .le (.lit (-1099511627776)) (.var 22)) (.and (.cmp .le (.var 22) (.lit 1099511627776)) (.and (.cmp .le (.lit (-1099511627776)) (.var 23)) (.cmp .le (.var 23) (.lit 1099511627776)))))
def aKP:List B:=aH aKC++aLm
def aL3:B:=(.and (.cmp .le (.lit (-1099511627776)) (.var 24)) (.and (.cmp .le (.var 24) (.lit 1099511627776)) (.and (.cmp .le (.lit (-1099511627776)) (.var 25)) (.cmp .le (.var 25) (.lit 1099511627776)))))
def aLo:List B:=aH aL3++aKP
def aKn:B:=(.and (.cmp .le (.lit (-1099511627776)) (.var 26)) (.and (.cmp .le (.var 26) (.lit 1099511627776)) (.and (.cmp .le (.lit (-1099511627776)) (.var 27)) (.cmp .le (.var 27) (.lit 1099511627776)))))
def aLE:List B:=aH aKn++aLo
def aKx:B:=(.and (.cmp .le (.lit (-1099511627776)) (.var 28)) (.and (.cmp .le (.var 28) (.lit 1099511627776)) (.and (.cmp .le (.lit (-1099511627776)) (.var 29)) (.cmp .le (.var 29) (.lit 1099511627776)))))
def aMr:List B:=aH aKx++aLE
def aKt:B:=(.and (.cmp .le (.lit (-1099511627776)) (.var 30)) (.and (.cmp .le (.var 30) (.lit 1099511627776)) (.and (.cmp .le (.lit (-1099511627776)) (.var 31)) (.cmp .le (.var 31) (.lit 1099511627776)))))
def aV5:List B:=aH aKt++aMr
def aYj:List B:=aH (B.neg aKt)++aMr
def aYC:List B:=aH (B.neg aKx)++aLE
def aX5:List B:=aH (B.neg aKn)++aLo
def aY3:List B:=aH (B.neg aL3)++aKP
def aYE:List B:=aH (B.neg aKC)++aLm
def aXl:List B:=aH (B.neg aLO)++aMn
def aY4:List B:=aH (B.neg aLZ)++aLu
def aXs:List B:=aH (B.neg aLR)++aLn
def aXz:List B:=aH (B.neg aLg)++aKb
def aXA:List B:=aH (B.neg aRd)++aUm
def aWl:List B:=aH (B.neg aTd)++aVD
def aXb:List B:=aH (B.neg aUn)++aRr
def aWj:List B:=aH (B.neg aR8)++aO2
def aYd:List B:=aH (B.neg aTi)++aQh
def aY7:List B:=aH (B.neg aTy)++aP3
def aZm:List B:=aH (B.neg aR6)++aTA
def aXu:List B:=aH (B.neg aQW)++aSI
theorem bDd:iA Try.prog bCf = .ok (.tuple [(.agg []),(.bool (.lit false))]):=by kernel_rfl
theorem aY1:iA Try.prog aV5 = .ok (.tuple [(.agg []),(.bool (.lit true))]):=by kernel_rfl
theorem aYL:iA Try.prog aYj = .ok (.tuple [(.agg []),(.bool (.lit false))]):=by kernel_rfl
theorem aW0:iA Try.prog aYC = .ok (.tuple [(.agg []),(.bool (.lit false))]):=by kernel_rfl
theorem aXt:iA Try.prog aX5 = .ok (.tuple [(.agg []),(.bool (.lit false))]):=by kernel_rfl
theorem aYb:iA Try.prog aY3 = .ok (.tuple [(.agg []),(.bool (.lit false))]):=by kernel_rfl
theorem aXZ:iA Try.prog aYE = .ok (.tuple [(.agg []),(.bool (.lit false))]):=by kernel_rfl
theorem aZt:iA Try.prog aXl = .ok (.tuple [(.agg []),(.bool (.lit false))]):=by kernel_rfl
theorem aWq:iA Try.prog aY4 = .ok (.tuple [(.agg []),(.bool (.lit false))]):=by kernel_rfl
theorem aYc:iA Try.prog aXs = .ok (.tuple [(.agg []),(.bool (.lit false))]):=by kernel_rfl
theorem aWN:iA Try.prog aXz = .ok (.tuple [(.agg []),(.bool (.lit false))]):=by kernel_rfl
theorem aZx:iA Try.prog aXA = .ok (.tuple [(.agg []),(.bool (.lit false))]):=by kernel_rfl
theorem aYF:iA Try.prog aWl = .ok (.tuple [(.agg []),(.bool (.lit false))]):=by kernel_rfl
theorem aZI:iA Try.prog aXb = .ok (.tuple [(.agg []),(.bool (.lit false))]):=by kernel_rfl
theorem aWS:iA Try.prog aWj = .ok (.tuple [(.agg []),(.bool (.lit false))]):=by kernel_rfl
theorem aWp:iA Try.prog aYd = .ok (.tuple [(.agg []),(.bool (.lit false))]):=by kernel_rfl
theorem aWr:iA Try.prog aY7 = .ok (.tuple [(.agg []),(.bool (.lit false))]):=by kernel_rfl
theorem aW3:iA Try.prog aZm = .ok (.tuple [(.agg []),(.bool (.lit false))]):=by kernel_rfl
theorem aZA:iA Try.prog aXu = .ok (.tuple [(.agg []),(.bool (.lit false))]):=by kernel_rfl
open Go Go.RowKit Sx Wi
set_option maxRecDepth 100000 in
theorem aYD (x0 x1 x2 x3 x4 x5 x6 x7 x8 x9 x10 x11 x12 x13 x14 x15 x16 x17 x18 x19 x20 x21 x22 x23 x24 x25 x26 x27 x28 x29 x30 x31 x32:Int):fN Try.prog G (bX GB) (dX (cV Try.prog 12) 1) aOU (bT ([x0,x1,x2,x3,x4,x5,x6,x7,x8,x9,x10,x11,x12,x13,x14,x15,x16,x17,x18,x19,x20,x21,x22,x23,x24,x25,x26,x27,x28,x29,x30,x31,x32]:List Int)):=by
 intro hw _
 have hb:eG [zzJ,zzJ,zzJ,zzJ,zzJ,zzJ,zzJ,zzJ,zzJ,zzJ,zzJ,zzJ,zzJ,zzJ,zzJ,zzJ,zzJ,zzJ,zzJ,zzJ,zzJ,zzJ,zzJ,zzJ,zzJ,zzJ,zzJ,zzJ,zzJ,zzJ,zzJ,zzJ,(1,6),(0,64),(0,256)] (([x0,x1,x2,x3,x4,x5,x6,x7,x8,x9,x10,x11,x12,x13,x14,x15,x16,x17,x18,x19,x20,x21,x22,x23,x24,x25,x26,x27,x28,x29,x30,x31,x32]:List Int)++[0,0]):=hw
 simp only[List.cons_append,List.nil_append]at hb
 obtain⟨b0,b1,b2,b3,b4,b5,b6,b7,b8,b9,b10,b11,b12,b13,b14,b15,b16,b17,b18,b19,b20,b21,b22,b23,b24,b25,b26,b27,b28,b29,b30,b31,b32,b33,_⟩:=hb
 have e:fJ G (bT ([x0,x1,x2,x3,x4,x5,x6,x7,x8,x9,x10,x11,x12,x13,x14,x15,x16,x17,x18,x19,x20,x21,x22,x23,x24,x25,x26,x27,x28,x29,x30,x31,x32]:List Int)) aOU.es=aW 0 x0 x1 x2 x3 x4 x5 x6 x7 x8 x9 x10 x11 x12 x13 x14 x15 x16 x17 x18 x19 x20 x21 x22 x23 x24 x25 x26 x27 x28 x29 x30 x31 x32 0:=by
  rw[eD];unfold aW;rw[fA,bZ,show ((0*(p2 x32).toNat:Nat):Int)=0 by have:=eB (e:=x32) (by omega) (by omega);show _=0;omega];rfl
 rw[e]
 have hp:=eB (e:=x32) (by omega) (by omega)
 exact⟨(p2 x32).toNat+1,dZ (ι:=Nat) (ρ:=aW 0 x0 x1 x2 x3 x4 x5 x6 x7 x8 x9 x10 x11 x12 x13 x14 x15 x16 x17 x18 x19 x20 x21 x22 x23 x24 x25 x26 x27 x28 x29 x30 x31 x32) (ρT:=bT ([x0,x1,x2,x3,x4,x5,x6,x7,x8,x9,x10,x11,x12,x13,x14,x15,x16,x17,x18,x19,x20,x21,x22,x23,x24,x25,x26,x27,x28,x29,x30,x31,x32]:List Int)) (m:=fun a=>(p2 x32).toNat-a) (Good:=fun a=>(a:Int)≤p2 x32) (run:=sM Try.prog) (fun _=>rfl) fits rfl dY (fun a ha=>gR 0 x0 x1 x2 x3 x4 x5 x6 x7 x8 x9 x10 x11 x12 x13 x14 x15 x16 x17 x18 x19 x20 x21 x22 x23 x24 x25 x26 x27 x28 x29 x30 x31 x32 b0 b1 b2 b3 b4 b5 b6 b7 b8 b9 b10 b11 b12 b13 b14 b15 b16 b17 b18 b19 b20 b21 b22 b23 b24 b25 b26 b27 b28 b29 b30 b31 b32 a (by decide) ha) (fun _ _ X hX hG=>fQ hX hG) (fun _ _ X hX hG=>dW) (fun a ha=>aW2 x0 x1 x2 x3 x4 x5 x6 x7 x8 x9 x10 x11 x12 x13 x14 x15 x16 x17 x18 x19 x20 x21 x22 x23 x24 x25 x26 x27 x28 x29 x30 x31 x32 b0 b1 b2 b3 b4 b5 b6 b7 b8 b9 b10 b11 b12 b13 b14 b15 b16 b17 b18 b19 b20 b21 b22 b23 b24 b25 b26 b27 b28 b29 b30 b31 b32 a ha) (by decide) _ 0 (by show ((0:Nat):Int)≤p2 x32;omega) (by show (p2 x32).toNat-0<_;omega)⟩
set_option maxRecDepth 100000 in
theorem aXC (x0 x1 x2 x3 x4 x5 x6 x7 x8 x9 x10 x11 x12 x13 x14 x15 x16 x17 x18 x19 x20 x21 x22 x23 x24 x25 x26 x27 x28 x29 x30 x31 x32:Int):fN Try.prog G (bX GB) (dX (cV Try.prog 12) 1) aQe (bT ([x0,x1,x2,x3,x4,x5,x6,x7,x8,x9,x10,x11,x12,x13,x14,x15,x16,x17,x18,x19,x20,x21,x22,x23,x24,x25,x26,x27,x28,x29,x30,x31,x32]:List Int)):=by
 intro hw _
 have hb:eG [zzJ,zzJ,zzJ,zzJ,zzJ,zzJ,zzJ,zzJ,zzJ,zzJ,zzJ,zzJ,zzJ,zzJ,zzJ,zzJ,zzJ,zzJ,zzJ,zzJ,zzJ,zzJ,zzJ,zzJ,zzJ,zzJ,zzJ,zzJ,zzJ,zzJ,zzJ,zzJ,(1,6),(0,64),(0,256)] (([x0,x1,x2,x3,x4,x5,x6,x7,x8,x9,x10,x11,x12,x13,x14,x15,x16,x17,x18,x19,x20,x21,x22,x23,x24,x25,x26,x27,x28,x29,x30,x31,x32]:List Int)++[0,1*2 ^ x32.toNat]):=hw
 simp only[List.cons_append,List.nil_append]at hb
 obtain⟨b0,b1,b2,b3,b4,b5,b6,b7,b8,b9,b10,b11,b12,b13,b14,b15,b16,b17,b18,b19,b20,b21,b22,b23,b24,b25,b26,b27,b28,b29,b30,b31,b32,b33,_⟩:=hb
 have e:fJ G (bT ([x0,x1,x2,x3,x4,x5,x6,x7,x8,x9,x10,x11,x12,x13,x14,x15,x16,x17,x18,x19,x20,x21,x22,x23,x24,x25,x26,x27,x28,x29,x30,x31,x32]:List Int)) aQe.es=aW 1 x0 x1 x2 x3 x4 x5 x6 x7 x8 x9 x10 x11 x12 x13 x14 x15 x16 x17 x18 x19 x20 x21 x22 x23 x24 x25 x26 x27 x28 x29 x30 x31 x32 0:=by
  rw[eD];unfold aW;rw[fA,bZ,show ((1*(p2 x32).toNat:Nat):Int)=1*2 ^ x32.toNat by have:=eB (e:=x32) (by omega) (by omega);show _=p2 x32;omega];rfl
 rw[e]
 have hp:=eB (e:=x32) (by omega) (by omega)
 exact⟨(p2 x32).toNat+1,dZ (ι:=Nat) (ρ:=aW 1 x0 x1 x2 x3 x4 x5 x6 x7 x8 x9 x10 x11 x12 x13 x14 x15 x16 x17 x18 x19 x20 x21 x22 x23 x24 x25 x26 x27 x28 x29 x30 x31 x32) (ρT:=bT ([x0,x1,x2,x3,x4,x5,x6,x7,x8,x9,x10,x11,x12,x13,x14,x15,x16,x17,x18,x19,x20,x21,x22,x23,x24,x25,x26,x27,x28,x29,x30,x31,x32]:List Int)) (m:=fun a=>(p2 x32).toNat-a) (Good:=fun a=>(a:Int)≤p2 x32) (run:=sQ Try.prog) (fun _=>rfl) fits rfl dY (fun a ha=>gR 1 x0 x1 x2 x3 x4 x5 x6 x7 x8 x9 x10 x11 x12 x13 x14 x15 x16 x17 x18 x19 x20 x21 x22 x23 x24 x25 x26 x27 x28 x29 x30 x31 x32 b0 b1 b2 b3 b4 b5 b6 b7 b8 b9 b10 b11 b12 b13 b14 b15 b16 b17 b18 b19 b20 b21 b22 b23 b24 b25 b26 b27 b28 b29 b30 b31 b32 a (by decide) ha) (fun _ _ X hX hG=>fQ hX hG) (fun _ _ X hX hG=>dW) (fun a ha=>aX6 x0 x1 x2 x3 x4 x5 x6 x7 x8 x9 x10 x11 x12 x13 x14 x15 x16 x17 x18 x19 x20 x21 x22 x23 x24 x25 x26 x27 x28 x29 x30 x31 x32 b0 b1 b2 b3 b4 b5 b6 b7 b8 b9 b10 b11 b12 b13 b14 b15 b16 b17 b18 b19 b20 b21 b22 b23 b24 b25 b26 b27 b28 b29 b30 b31 b32 a ha) (by decide) _ 0 (by show ((0:Nat):Int)≤p2 x32;omega) (by show (p2 x32).toNat-0<_;omega)⟩
set_option maxRecDepth 100000 in
theorem aYw (x0 x1 x2 x3 x4 x5 x6 x7 x8 x9 x10 x11 x12 x13 x14 x15 x16 x17 x18 x19 x20 x21 x22 x23 x24 x25 x26 x27 x28 x29 x30 x31 x32:Int):fN Try.prog G (bX GB) (dX (cV Try.prog 12) 1) aU2 (bT ([x0,x1,x2,x3,x4,x5,x6,x7,x8,x9,x10,x11,x12,x13,x14,x15,x16,x17,x18,x19,x20,x21,x22,x23,x24,x25,x26,x27,x28,x29,x30,x31,x32]:List Int)):=by
 intro hw _
 have hb:eG [zzJ,zzJ,zzJ,zzJ,zzJ,zzJ,zzJ,zzJ,zzJ,zzJ,zzJ,zzJ,zzJ,zzJ,zzJ,zzJ,zzJ,zzJ,zzJ,zzJ,zzJ,zzJ,zzJ,zzJ,zzJ,zzJ,zzJ,zzJ,zzJ,zzJ,zzJ,zzJ,(1,6),(0,64),(0,256)] (([x0,x1,x2,x3,x4,x5,x6,x7,x8,x9,x10,x11,x12,x13,x14,x15,x16,x17,x18,x19,x20,x21,x22,x23,x24,x25,x26,x27,x28,x29,x30,x31,x32]:List Int)++[0,2*(1*2 ^ x32.toNat)]):=hw
 simp only[List.cons_append,List.nil_append]at hb
 obtain⟨b0,b1,b2,b3,b4,b5,b6,b7,b8,b9,b10,b11,b12,b13,b14,b15,b16,b17,b18,b19,b20,b21,b22,b23,b24,b25,b26,b27,b28,b29,b30,b31,b32,b33,_⟩:=hb
 have e:fJ G (bT ([x0,x1,x2,x3,x4,x5,x6,x7,x8,x9,x10,x11,x12,x13,x14,x15,x16,x17,x18,x19,x20,x21,x22,x23,x24,x25,x26,x27,x28,x29,x30,x31,x32]:List Int)) aU2.es=aW 2 x0 x1 x2 x3 x4 x5 x6 x7 x8 x9 x10 x11 x12 x13 x14 x15 x16 x17 x18 x19 x20 x21 x22 x23 x24 x25 x26 x27 x28 x29 x30 x31 x32 0:=by
  rw[eD];unfold aW;rw[fA,bZ,show ((2*(p2 x32).toNat:Nat):Int)=2*(1*2 ^ x32.toNat)by have:=eB (e:=x32) (by omega) (by omega);show _=2*(p2 x32);omega];rfl
 rw[e]
 have hp:=eB (e:=x32) (by omega) (by omega)
 exact⟨(p2 x32).toNat+1,dZ (ι:=Nat) (ρ:=aW 2 x0 x1 x2 x3 x4 x5 x6 x7 x8 x9 x10 x11 x12 x13 x14 x15 x16 x17 x18 x19 x20 x21 x22 x23 x24 x25 x26 x27 x28 x29 x30 x31 x32) (ρT:=bT ([x0,x1,x2,x3,x4,x5,x6,x7,x8,x9,x10,x11,x12,x13,x14,x15,x16,x17,x18,x19,x20,x21,x22,x23,x24,x25,x26,x27,x28,x29,x30,x31,x32]:List Int)) (m:=fun a=>(p2 x32).toNat-a) (Good:=fun a=>(a:Int)≤p2 x32) (run:=rW Try.prog) (fun _=>rfl) fits rfl dY (fun a ha=>gR 2 x0 x1 x2 x3 x4 x5 x6 x7 x8 x9 x10 x11 x12 x13 x14 x15 x16 x17 x18 x19 x20 x21 x22 x23 x24 x25 x26 x27 x28 x29 x30 x31 x32 b0 b1 b2 b3 b4 b5 b6 b7 b8 b9 b10 b11 b12 b13 b14 b15 b16 b17 b18 b19 b20 b21 b22 b23 b24 b25 b26 b27 b28 b29 b30 b31 b32 a (by decide) ha) (fun _ _ X hX hG=>fQ hX hG) (fun _ _ X hX hG=>dW) (fun a ha=>aWE x0 x1 x2 x3 x4 x5 x6 x7 x8 x9 x10 x11 x12 x13 x14 x15 x16 x17 x18 x19 x20 x21 x22 x23 x24 x25 x26 x27 x28 x29 x30 x31 x32 b0 b1 b2 b3 b4 b5 b6 b7 b8 b9 b10 b11 b12 b13 b14 b15 b16 b17 b18 b19 b20 b21 b22 b23 b24 b25 b26 b27 b28 b29 b30 b31 b32 a ha) (by decide) _ 0 (by show ((0:Nat):Int)≤p2 x32;omega) (by show (p2 x32).toNat-0<_;omega)⟩
set_option maxRecDepth 100000 in
theorem aW4 (x0 x1 x2 x3 x4 x5 x6 x7 x8 x9 x10 x11 x12 x13 x14 x15 x16 x17 x18 x19 x20 x21 x22 x23 x24 x25 x26 x27 x28 x29 x30 x31 x32:Int):fN Try.prog G (bX GB) (dX (cV Try.prog 12) 1) aS6 (bT ([x0,x1,x2,x3,x4,x5,x6,x7,x8,x9,x10,x11,x12,x13,x14,x15,x16,x17,x18,x19,x20,x21,x22,x23,x24,x25,x26,x27,x28,x29,x30,x31,x32]:List Int)):=by
 intro hw _
 have hb:eG [zzJ,zzJ,zzJ,zzJ,zzJ,zzJ,zzJ,zzJ,zzJ,zzJ,zzJ,zzJ,zzJ,zzJ,zzJ,zzJ,zzJ,zzJ,zzJ,zzJ,zzJ,zzJ,zzJ,zzJ,zzJ,zzJ,zzJ,zzJ,zzJ,zzJ,zzJ,zzJ,(1,6),(0,64),(0,256)] (([x0,x1,x2,x3,x4,x5,x6,x7,x8,x9,x10,x11,x12,x13,x14,x15,x16,x17,x18,x19,x20,x21,x22,x23,x24,x25,x26,x27,x28,x29,x30,x31,x32]:List Int)++[0,3*(1*2 ^ x32.toNat)]):=hw
 simp only[List.cons_append,List.nil_append]at hb
 obtain⟨b0,b1,b2,b3,b4,b5,b6,b7,b8,b9,b10,b11,b12,b13,b14,b15,b16,b17,b18,b19,b20,b21,b22,b23,b24,b25,b26,b27,b28,b29,b30,b31,b32,b33,_⟩:=hb
 have e:fJ G (bT ([x0,x1,x2,x3,x4,x5,x6,x7,x8,x9,x10,x11,x12,x13,x14,x15,x16,x17,x18,x19,x20,x21,x22,x23,x24,x25,x26,x27,x28,x29,x30,x31,x32]:List Int)) aS6.es=aW 3 x0 x1 x2 x3 x4 x5 x6 x7 x8 x9 x10 x11 x12 x13 x14 x15 x16 x17 x18 x19 x20 x21 x22 x23 x24 x25 x26 x27 x28 x29 x30 x31 x32 0:=by
  rw[eD];unfold aW;rw[fA,bZ,show ((3*(p2 x32).toNat:Nat):Int)=3*(1*2 ^ x32.toNat)by have:=eB (e:=x32) (by omega) (by omega);show _=3*(p2 x32);omega];rfl
 rw[e]
 have hp:=eB (e:=x32) (by omega) (by omega)
 exact⟨(p2 x32).toNat+1,dZ (ι:=Nat) (ρ:=aW 3 x0 x1 x2 x3 x4 x5 x6 x7 x8 x9 x10 x11 x12 x13 x14 x15 x16 x17 x18 x19 x20 x21 x22 x23 x24 x25 x26 x27 x28 x29 x30 x31 x32) (ρT:=bT ([x0,x1,x2,x3,x4,x5,x6,x7,x8,x9,x10,x11,x12,x13,x14,x15,x16,x17,x18,x19,x20,x21,x22,x23,x24,x25,x26,x27,x28,x29,x30,x31,x32]:List Int)) (m:=fun a=>(p2 x32).toNat-a) (Good:=fun a=>(a:Int)≤p2 x32) (run:=sP Try.prog) (fun _=>rfl) fits rfl dY (fun a ha=>gR 3 x0 x1 x2 x3 x4 x5 x6 x7 x8 x9 x10 x11 x12 x13 x14 x15 x16 x17 x18 x19 x20 x21 x22 x23 x24 x25 x26 x27 x28 x29 x30 x31 x32 b0 b1 b2 b3 b4 b5 b6 b7 b8 b9 b10 b11 b12 b13 b14 b15 b16 b17 b18 b19 b20 b21 b22 b23 b24 b25 b26 b27 b28 b29 b30 b31 b32 a (by decide) ha) (fun _ _ X hX hG=>fQ hX hG) (fun _ _ X hX hG=>dW) (fun a ha=>aZj x0 x1 x2 x3 x4 x5 x6 x7 x8 x9 x10 x11 x12 x13 x14 x15 x16 x17 x18 x19 x20 x21 x22 x23 x24 x25 x26 x27 x28 x29 x30 x31 x32 b0 b1 b2 b3 b4 b5 b6 b7 b8 b9 b10 b11 b12 b13 b14 b15 b16 b17 b18 b19 b20 b21 b22 b23 b24 b25 b26 b27 b28 b29 b30 b31 b32 a ha) (by decide) _ 0 (by show ((0:Nat):Int)≤p2 x32;omega) (by show (p2 x32).toNat-0<_;omega)⟩
set_option maxHeartbeats 8000000 in
set_option maxRecDepth 100000 in
theorem bA3 (x0 x1 x2 x3 x4 x5 x6 x7 x8 x9 x10 x11 x12 x13 x14 x15 x16 x17 x18 x19 x20 x21 x22 x23 x24 x25 x26 x27 x28 x29 x30 x31 x32:Int) (b0:zzi x0) (b1:zzi x1) (b2:zzi x2) (b3:zzi x3) (b4:zzi x4) (b5:zzi x5) (b6:zzi x6) (b7:zzi x7) (b8:zzi x8) (b9:zzi x9) (b10:zzi x10) (b11:zzi x11) (b12:zzi x12) (b13:zzi x13) (b14:zzi x14) (b15:zzi x15) (b16:zzi x16) (b17:zzi x17) (b18:zzi x18) (b19:zzi x19) (b20:zzi x20) (b21:zzi x21) (b22:zzi x22) (b23:zzi x23) (b24:zzi x24) (b25:zzi x25) (b26:zzi x26) (b27:zzi x27) (b28:zzi x28) (b29:zzi x29) (b30:zzi x30) (b31:zzi x31) (b32:zzi x32):aAB Try.prog G GB 12 bAp (bT ([x0,x1,x2,x3,x4,x5,x6,x7,x8,x9,x10,x11,x12,x13,x14,x15,x16,x17,x18,x19,x20,x21,x22,x23,x24,x25,x26,x27,x28,x29,x30,x31,x32]:List Int)):=by
 refine pO (lp:=aZR) (run:=aRu Try.prog) (fun _=>rfl) fits (bL ⟨b0,b1,b2,b3,b4,b5,b6,b7,b8,b9,b10,b11,b12,b13,b14,b15,b16,b17,b18,b19,b20,b21,b22,b23,b24,b25,b26,b27,b28,b29,b30,b31,b32,trivial⟩) dY (fun X hX hG=>aNk hX hG) (fun X hX hG fn c hf hc=>?_) rfl ?_
 ·refine jL (bs:=[dX (cV Try.prog 12) 0,dX (cV Try.prog 12) 1]) ((congrArg bM (jM hf hc)).symm.trans aPr) ?_
  intro b hb
  simp only[List.mem_cons,List.mem_nil_iff,or_false]at hb
  rcases hb with rfl|rfl
  ·exact rX (j:=5) (by kernel_rfl) (by decide) aAP
  ·refine lD hX hG (by kernel_rfl) ?_
   intro p hp
   simp only[List.mem_cons,List.mem_nil_iff,or_false]at hp
   rcases hp with rfl|rfl|rfl|rfl
   ·exact aYD x0 x1 x2 x3 x4 x5 x6 x7 x8 x9 x10 x11 x12 x13 x14 x15 x16 x17 x18 x19 x20 x21 x22 x23 x24 x25 x26 x27 x28 x29 x30 x31 x32
   ·exact aXC x0 x1 x2 x3 x4 x5 x6 x7 x8 x9 x10 x11 x12 x13 x14 x15 x16 x17 x18 x19 x20 x21 x22 x23 x24 x25 x26 x27 x28 x29 x30 x31 x32
   ·exact aYw x0 x1 x2 x3 x4 x5 x6 x7 x8 x9 x10 x11 x12 x13 x14 x15 x16 x17 x18 x19 x20 x21 x22 x23 x24 x25 x26 x27 x28 x29 x30 x31 x32
   ·exact aW4 x0 x1 x2 x3 x4 x5 x6 x7 x8 x9 x10 x11 x12 x13 x14 x15 x16 x17 x18 x19 x20 x21 x22 x23 x24 x25 x26 x27 x28 x29 x30 x31 x32
 ·skip
  refine aG (.cmp .le (.lit 1) (.var 32)) (fun h0=>?_) (fun h0=>?_)
  rotate_left
  ·skip
   refine aE aZA ?_
   simp only[iP];refine⟨?_,trivial⟩;show B.den G _ bW=_;unfold bW;simp only[nn]at *;(try simp only[show (1:Int)*2 ^ (0:Int).toNat=1 from rfl]at *);(try simp only[Bool.eq_false_iff,ne_eq,Bool.and_eq_true,decide_eq_true_eq]at *);first|omega|(refine Bool.eq_false_iff.2 (fun h=>?_);simp only[Bool.and_eq_true,decide_eq_true_eq]at h;omega)
  refine aG (.cmp .lt (.lit 6) (.var 32)) (fun h1=>?_) (fun h1=>?_)
  ·skip
   refine aE bDd ?_
   simp only[iP];refine⟨?_,trivial⟩;show B.den G _ bW=_;unfold bW;simp only[nn]at *;(try simp only[show (1:Int)*2 ^ (0:Int).toNat=1 from rfl]at *);(try simp only[Bool.eq_false_iff,ne_eq,Bool.and_eq_true,decide_eq_true_eq]at *);first|omega|(refine Bool.eq_false_iff.2 (fun h=>?_);simp only[Bool.and_eq_true,decide_eq_true_eq]at h;omega)
  refine aG (.and (.cmp .le (.lit (-1099511627776)) (.var 0)) (.and (.cmp .le (.var 0) (.lit 1099511627776)) (.and (.cmp .le (.lit (-1099511627776)) (.var 1)) (.cmp .le (.var 1) (.lit 1099511627776))))) (fun h2=>?_) (fun h2=>?_)
  rotate_left
  ·skip
   refine aE aW3 ?_
   simp only[iP];refine⟨?_,trivial⟩;show B.den G _ bW=_;unfold bW;simp only[nn]at *;(try simp only[show (1:Int)*2 ^ (0:Int).toNat=1 from rfl]at *);(try simp only[Bool.eq_false_iff,ne_eq,Bool.and_eq_true,decide_eq_true_eq]at *);first|omega|(refine Bool.eq_false_iff.2 (fun h=>?_);simp only[Bool.and_eq_true,decide_eq_true_eq]at h;omega)
  refine aG (.and (.cmp .le (.lit (-1099511627776)) (.var 2)) (.and (.cmp .le (.var 2) (.lit 1099511627776)) (.and (.cmp .le (.lit (-1099511627776)) (.var 3)) (.cmp .le (.var 3) (.lit 1099511627776))))) (fun h3=>?_) (fun h3=>?_)
  rotate_left
  ·skip
   refine aE aWr ?_
   simp only[iP];refine⟨?_,trivial⟩;show B.den G _ bW=_;unfold bW;simp only[nn]at *;(try simp only[show (1:Int)*2 ^ (0:Int).toNat=1 from rfl]at *);(try simp only[Bool.eq_false_iff,ne_eq,Bool.and_eq_true,decide_eq_true_eq]at *);first|omega|(refine Bool.eq_false_iff.2 (fun h=>?_);simp only[Bool.and_eq_true,decide_eq_true_eq]at h;omega)
  refine aG (.and (.cmp .le (.lit (-1099511627776)) (.var 4)) (.and (.cmp .le (.var 4) (.lit 1099511627776)) (.and (.cmp .le (.lit (-1099511627776)) (.var 5)) (.cmp .le (.var 5) (.lit 1099511627776))))) (fun h4=>?_) (fun h4=>?_)
  rotate_left
  ·skip
   refine aE aWp ?_
   simp only[iP];refine⟨?_,trivial⟩;show B.den G _ bW=_;unfold bW;simp only[nn]at *;(try simp only[show (1:Int)*2 ^ (0:Int).toNat=1 from rfl]at *);(try simp only[Bool.eq_false_iff,ne_eq,Bool.and_eq_true,decide_eq_true_eq]at *);first|omega|(refine Bool.eq_false_iff.2 (fun h=>?_);simp only[Bool.and_eq_true,decide_eq_true_eq]at h;omega)
  refine aG (.and (.cmp .le (.lit (-1099511627776)) (.var 6)) (.and (.cmp .le (.var 6) (.lit 1099511627776)) (.and (.cmp .le (.lit (-1099511627776)) (.var 7)) (.cmp .le (.var 7) (.lit 1099511627776))))) (fun h5=>?_) (fun h5=>?_)
  rotate_left
  ·skip
   refine aE aWS ?_
   simp only[iP];refine⟨?_,trivial⟩;show B.den G _ bW=_;unfold bW;simp only[nn]at *;(try simp only[show (1:Int)*2 ^ (0:Int).toNat=1 from rfl]at *);(try simp only[Bool.eq_false_iff,ne_eq,Bool.and_eq_true,decide_eq_true_eq]at *);first|omega|(refine Bool.eq_false_iff.2 (fun h=>?_);simp only[Bool.and_eq_true,decide_eq_true_eq]at h;omega)
  refine aG (.and (.cmp .le (.lit (-1099511627776)) (.var 8)) (.and (.cmp .le (.var 8) (.lit 1099511627776)) (.and (.cmp .le (.lit (-1099511627776)) (.var 9)) (.cmp .le (.var 9) (.lit 1099511627776))))) (fun h6=>?_) (fun h6=>?_)
  rotate_left
  ·skip
   refine aE aZI ?_
   simp only[iP];refine⟨?_,trivial⟩;show B.den G _ bW=_;unfold bW;simp only[nn]at *;(try simp only[show (1:Int)*2 ^ (0:Int).toNat=1 from rfl]at *);(try simp only[Bool.eq_false_iff,ne_eq,Bool.and_eq_true,decide_eq_true_eq]at *);first|omega|(refine Bool.eq_false_iff.2 (fun h=>?_);simp only[Bool.and_eq_true,decide_eq_true_eq]at h;omega)
  refine aG (.and (.cmp .le (.lit (-1099511627776)) (.var 10)) (.and (.cmp .le (.var 10) (.lit 1099511627776)) (.and (.cmp .le (.lit (-1099511627776)) (.var 11)) (.cmp .le (.var 11) (.lit 1099511627776))))) (fun h7=>?_) (fun h7=>?_)
  rotate_left
  ·skip
   refine aE aYF ?_
   simp only[iP];refine⟨?_,trivial⟩;show B.den G _ bW=_;unfold bW;simp only[nn]at *;(try simp only[show (1:Int)*2 ^ (0:Int).toNat=1 from rfl]at *);(try simp only[Bool.eq_false_iff,ne_eq,Bool.and_eq_true,decide_eq_true_eq]at *);first|omega|(refine Bool.eq_false_iff.2 (fun h=>?_);simp only[Bool.and_eq_true,decide_eq_true_eq]at h;omega)
  refine aG (.and (.cmp .le (.lit (-1099511627776)) (.var 12)) (.and (.cmp .le (.var 12) (.lit 1099511627776)) (.and (.cmp .le (.lit (-1099511627776)) (.var 13)) (.cmp .le (.var 13) (.lit 1099511627776))))) (fun h8=>?_) (fun h8=>?_)
  rotate_left
  ·skip
   refine aE aZx ?_
   simp only[iP];refine⟨?_,trivial⟩;show B.den G _ bW=_;unfold bW;simp only[nn]at *;(try simp only[show (1:Int)*2 ^ (0:Int).toNat=1 from rfl]at *);(try simp only[Bool.eq_false_iff,ne_eq,Bool.and_eq_true,decide_eq_true_eq]at *);first|omega|(refine Bool.eq_false_iff.2 (fun h=>?_);simp only[Bool.and_eq_true,decide_eq_true_eq]at h;omega)
  refine aG (.and (.cmp .le (.lit (-1099511627776)) (.var 14)) (.and (.cmp .le (.var 14) (.lit 1099511627776)) (.and (.cmp .le (.lit (-1099511627776)) (.var 15)) (.cmp .le (.var 15) (.lit 1099511627776))))) (fun h9=>?_) (fun h9=>?_)
  rotate_left
  ·skip
   refine aE aWN ?_
   simp only[iP];refine⟨?_,trivial⟩;show B.den G _ bW=_;unfold bW;simp only[nn]at *;(try simp only[show (1:Int)*2 ^ (0:Int).toNat=1 from rfl]at *);(try simp only[Bool.eq_false_iff,ne_eq,Bool.and_eq_true,decide_eq_true_eq]at *);first|omega|(refine Bool.eq_false_iff.2 (fun h=>?_);simp only[Bool.and_eq_true,decide_eq_true_eq]at h;omega)
  refine aG (.and (.cmp .le (.lit (-1099511627776)) (.var 16)) (.and (.cmp .le (.var 16) (.lit 1099511627776)) (.and (.cmp .le (.lit (-1099511627776)) (.var 17)) (.cmp .le (.var 17) (.lit 1099511627776))))) (fun h10=>?_) (fun h10=>?_)
  rotate_left
  ·skip
   refine aE aYc ?_
   simp only[iP];refine⟨?_,trivial⟩;show B.den G _ bW=_;unfold bW;simp only[nn]at *;(try simp only[show (1:Int)*2 ^ (0:Int).toNat=1 from rfl]at *);(try simp only[Bool.eq_false_iff,ne_eq,Bool.and_eq_true,decide_eq_true_eq]at *);first|omega|(refine Bool.eq_false_iff.2 (fun h=>?_);simp only[Bool.and_eq_true,decide_eq_true_eq]at h;omega)
  refine aG (.and (.cmp .le (.lit (-1099511627776)) (.var 18)) (.and (.cmp .le (.var 18) (.lit 1099511627776)) (.and (.cmp .le (.lit (-1099511627776)) (.var 19)) (.cmp .le (.var 19) (.lit 1099511627776))))) (fun h11=>?_) (fun h11=>?_)
  rotate_left
  ·skip
   refine aE aWq ?_
   simp only[iP];refine⟨?_,trivial⟩;show B.den G _ bW=_;unfold bW;simp only[nn]at *;(try simp only[show (1:Int)*2 ^ (0:Int).toNat=1 from rfl]at *);(try simp only[Bool.eq_false_iff,ne_eq,Bool.and_eq_true,decide_eq_true_eq]at *);first|omega|(refine Bool.eq_false_iff.2 (fun h=>?_);simp only[Bool.and_eq_true,decide_eq_true_eq]at h;omega)
  refine aG (.and (.cmp .le (.lit (-1099511627776)) (.var 20)) (.and (.cmp .le (.var 20) (.lit 1099511627776)) (.and (.cmp .le (.lit (-1099511627776)) (.var 21)) (.cmp .le (.var 21) (.lit 1099511627776))))) (fun h12=>?_) (fun h12=>?_)
  rotate_left
  ·skip
   refine aE aZt ?_
   simp only[iP];refine⟨?_,trivial⟩;show B.den G _ bW=_;unfold bW;simp only[nn]at *;(try simp only[show (1:Int)*2 ^ (0:Int).toNat=1 from rfl]at *);(try simp only[Bool.eq_false_iff,ne_eq,Bool.and_eq_true,decide_eq_true_eq]at *);first|omega|(refine Bool.eq_false_iff.2 (fun h=>?_);simp only[Bool.and_eq_true,decide_eq_true_eq]at h;omega)
  refine aG (.and (.cmp .le (.lit (-1099511627776)) (.var 22)) (.and (.cmp .le (.var 22) (.lit 1099511627776)) (.and (.cmp .le (.lit (-1099511627776)) (.var 23)) (.cmp .le (.var 23) (.lit 1099511627776))))) (fun h13=>?_) (fun h13=>?_)
  rotate_left
  ·skip
   refine aE aXZ ?_
   simp only[iP];refine⟨?_,trivial⟩;show B.den G _ bW=_;unfold bW;simp only[nn]at *;(try simp only[show (1:Int)*2 ^ (0:Int).toNat=1 from rfl]at *);(try simp only[Bool.eq_false_iff,ne_eq,Bool.and_eq_true,decide_eq_true_eq]at *);first|omega|(refine Bool.eq_false_iff.2 (fun h=>?_);simp only[Bool.and_eq_true,decide_eq_true_eq]at h;omega)
  refine aG (.and (.cmp .le (.lit (-1099511627776)) (.var 24)) (.and (.cmp .le (.var 24) (.lit 1099511627776)) (.and (.cmp .le (.lit (-1099511627776)) (.var 25)) (.cmp .le (.var 25) (.lit 1099511627776))))) (fun h14=>?_) (fun h14=>?_)
  rotate_left
  ·skip
   refine aE aYb ?_
   simp only[iP];refine⟨?_,trivial⟩;show B.den G _ bW=_;unfold bW;simp only[nn]at *;(try simp only[show (1:Int)*2 ^ (0:Int).toNat=1 from rfl]at *);(try simp only[Bool.eq_false_iff,ne_eq,Bool.and_eq_true,decide_eq_true_eq]at *);first|omega|(refine Bool.eq_false_iff.2 (fun h=>?_);simp only[Bool.and_eq_true,decide_eq_true_eq]at h;omega)
  refine aG (.and (.cmp .le (.lit (-1099511627776)) (.var 26)) (.and (.cmp .le (.var 26) (.lit 1099511627776)) (.and (.cmp .le (.lit (-1099511627776)) (.var 27)) (.cmp .le (.var 27) (.lit 1099511627776))))) (fun h15=>?_) (fun h15=>?_)
  rotate_left
  ·skip
   refine aE aXt ?_
   simp only[iP];refine⟨?_,trivial⟩;show B.den G _ bW=_;unfold bW;simp only[nn]at *;(try simp only[show (1:Int)*2 ^ (0:Int).toNat=1 from rfl]at *);(try simp only[Bool.eq_false_iff,ne_eq,Bool.and_eq_true,decide_eq_true_eq]at *);first|omega|(refine Bool.eq_false_iff.2 (fun h=>?_);simp only[Bool.and_eq_true,decide_eq_true_eq]at h;omega)
  refine aG (.and (.cmp .le (.lit (-1099511627776)) (.var 28)) (.and (.cmp .le (.var 28) (.lit 1099511627776)) (.and (.cmp .le (.lit (-1099511627776)) (.var 29)) (.cmp .le (.var 29) (.lit 1099511627776))))) (fun h16=>?_) (fun h16=>?_)
  rotate_left
  ·skip
   refine aE aW0 ?_
   simp only[iP];refine⟨?_,trivial⟩;show B.den G _ bW=_;unfold bW;simp only[nn]at *;(try simp only[show (1:Int)*2 ^ (0:Int).toNat=1 from rfl]at *);(try simp only[Bool.eq_false_iff,ne_eq,Bool.and_eq_true,decide_eq_true_eq]at *);first|omega|(refine Bool.eq_false_iff.2 (fun h=>?_);simp only[Bool.and_eq_true,decide_eq_true_eq]at h;omega)
  refine aG (.and (.cmp .le (.lit (-1099511627776)) (.var 30)) (.and (.cmp .le (.var 30) (.lit 1099511627776)) (.and (.cmp .le (.lit (-1099511627776)) (.var 31)) (.cmp .le (.var 31) (.lit 1099511627776))))) (fun h17=>?_) (fun h17=>?_)
  ·skip
   refine aE aY1 ?_
   simp only[iP];refine⟨?_,trivial⟩;show B.den G _ bW=_;unfold bW;simp only[nn]at *;(try simp only[show (1:Int)*2 ^ (0:Int).toNat=1 from rfl]at *);(try simp only[Bool.eq_false_iff,ne_eq,Bool.and_eq_true,decide_eq_true_eq]at *);first|omega|(refine Bool.eq_false_iff.2 (fun h=>?_);simp only[Bool.and_eq_true,decide_eq_true_eq]at h;omega)
  refine aE aYL ?_
  simp only[iP];refine⟨?_,trivial⟩;show B.den G _ bW=_;unfold bW;simp only[nn]at *;(try simp only[show (1:Int)*2 ^ (0:Int).toNat=1 from rfl]at *);(try simp only[Bool.eq_false_iff,ne_eq,Bool.and_eq_true,decide_eq_true_eq]at *);first|omega|(refine Bool.eq_false_iff.2 (fun h=>?_);simp only[Bool.and_eq_true,decide_eq_true_eq]at h;omega)
def aDv (P:Program) (fs:List B):Res SV:=bK G GI [zzI,zzI,zzI,zzI,zzI,zzI,zzI,zzI,zzI,zzI,zzI,zzI,zzI,zzI,zzI,zzI,zzI,zzI,zzI,zzI,zzI,zzI,zzI,zzI,zzI,zzI,zzI,zzI,zzI,zzI,zzI,zzI,zzI] fs fun X=>aAj P X GB iO aJ8 8000 11 aIR
set_option maxRecDepth 100000
open Go Go.RowKit Sx Wi
def yY (P:Program) (fs:List B):Res SV:=aDv P fs
def aFC:List B:=[]
def aDX:B:=(.cmp .le (.lit 1) (.var 32))
def aD4:List B:=aH aDX++aFC
def aEO:B:=(.cmp .lt (.lit 6) (.var 32))
def aTW:List B:=aH aEO++aD4
def aG4:List B:=aH (B.neg aEO)++aD4
def aFr:B:=(.and (.cmp .le (.lit 0) (.lit 0)) (.and (.cmp .le (.lit 0) (.lit 6)) (.and (.cmp .le (.lit 0) (.lit 0)) (.and (.cmp .le (.lit 0) (.op .shl (.lit 1) (.lit 0))) (.and (.cmp .le (.lit 0) (.lit 0)) (.and (.cmp .le (.lit 0) (.op .shl (.lit 1) (.lit 0))) zzG))))))
def aSk:List B:=aH aFr++aG4
def aVt:List B:=aH (B.neg aFr)++aG4
def aVW:List B:=aH (B.neg aDX)++aFC
theorem aQk:yY Try.prog aTW = .ok (.tuple [(.agg []),(.bool (.lit false))]):=by kernel_rfl
theorem aTr:yY Try.prog aSk = .ok (.tuple [(.agg []),(.bool (.lit true))]):=by kernel_rfl
theorem aUi:yY Try.prog aVt = .ok (.tuple [(.agg []),(.bool (.lit false))]):=by kernel_rfl
theorem aPK:yY Try.prog aVW = .ok (.tuple [(.agg []),(.bool (.lit false))]):=by kernel_rfl
end Go.Proofs.Ytkpdiehbaiepaaa
