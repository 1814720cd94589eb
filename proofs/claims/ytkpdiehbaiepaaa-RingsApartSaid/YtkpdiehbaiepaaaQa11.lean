/- What is proved: the ring beside a side,as it is told: a contract for each of the four sides. No condition but the numbers' own bounds. -/
import Derived.Test.YtkpdiehbaiepaaaQa10
set_option linter.unusedSimpArgs false
set_option linter.unusedVariables false
namespace Go.Proofs.Ytkpdiehbaiepaaa
open Go Go.RowKit Sx Wi
theorem pJ:bD (aY Try.prog 37)=[bC (aY Try.prog 37) 0]:=by kernel_rfl
set_option maxRecDepth 100000 in
theorem aLq (x0 x1 x2 x3 x4 x5 x6 x7 x8 x9 x10 x11 x12 x13 x14 x15 x16 x17 x18 x19 x20 x21 x22 x23 x24 x25 x26 x27 x28 x29 x30 x31 x32 x33:Int) (b0:zzf x0) (b1:zzf x1) (b2:zzf x2) (b3:zzf x3) (b4:zzf x4) (b5:zzf x5) (b6:zzf x6) (b7:zzf x7) (b8:zzf x8) (b9:zzf x9) (b10:zzf x10) (b11:zzf x11) (b12:zzf x12) (b13:zzf x13) (b14:zzf x14) (b15:zzf x15) (b16:zzf x16) (b17:zzf x17) (b18:zzf x18) (b19:zzf x19) (b20:zzf x20) (b21:zzf x21) (b22:zzf x22) (b23:zzf x23) (b24:zzf x24) (b25:zzf x25) (b26:zzf x26) (b27:zzf x27) (b28:zzf x28) (b29:zzf x29) (b30:zzf x30) (b31:zzf x31) (b32:1≤x32∧x32≤6) (b33:1≤x33∧x33≤6):gZ Try.prog G GB 37 aEs (dJ ([x0,x1,x2,x3,x4,x5,x6,x7,x8,x9,x10,x11,x12,x13,x14,x15,x16,x17,x18,x19,x20,x21,x22,x23,x24,x25,x26,x27,x28,x29,x30,x31,x32,x33]:List Int)):=by
 refine eA (lp:=aEN) (run:=aB0 Try.prog) (fun _=>rfl) fits (cM ⟨b0,b1,b2,b3,b4,b5,b6,b7,b8,b9,b10,b11,b12,b13,b14,b15,b16,b17,b18,b19,b20,b21,b22,b23,b24,b25,b26,b27,b28,b29,b30,b31,b32,b33,trivial⟩) eE (fun X hX hG=>iN hX hG) (fun X hX hG fn c hf hc=>?_) rfl ?_
 ·refine eN (bs:=[bC (aY Try.prog 37) 0]) ((congrArg bD (eV hf hc)).symm.trans pJ) ?_
  intro b hb
  simp only[List.mem_cons,List.mem_nil_iff,or_false]at hb
  subst hb
  refine gD hX hG (by kernel_rfl) ?_
  intro p hp
  simp only[List.mem_cons,List.mem_nil_iff,or_false]at hp
  subst hp
  exact aMF x0 x1 x2 x3 x4 x5 x6 x7 x8 x9 x10 x11 x12 x13 x14 x15 x16 x17 x18 x19 x20 x21 x22 x23 x24 x25 x26 x27 x28 x29 x30 x31 x32 x33
 ·skip
  refine aH aTc ?_
  exact⟨rfl,trivial⟩
set_option maxRecDepth 100000 in
theorem aLZ (x0 x1 x2 x3 x4 x5 x6 x7 x8 x9 x10 x11 x12 x13 x14 x15 x16 x17 x18 x19 x20 x21 x22 x23 x24 x25 x26 x27 x28 x29 x30 x31 x32 x33:Int) (b0:zzf x0) (b1:zzf x1) (b2:zzf x2) (b3:zzf x3) (b4:zzf x4) (b5:zzf x5) (b6:zzf x6) (b7:zzf x7) (b8:zzf x8) (b9:zzf x9) (b10:zzf x10) (b11:zzf x11) (b12:zzf x12) (b13:zzf x13) (b14:zzf x14) (b15:zzf x15) (b16:zzf x16) (b17:zzf x17) (b18:zzf x18) (b19:zzf x19) (b20:zzf x20) (b21:zzf x21) (b22:zzf x22) (b23:zzf x23) (b24:zzf x24) (b25:zzf x25) (b26:zzf x26) (b27:zzf x27) (b28:zzf x28) (b29:zzf x29) (b30:zzf x30) (b31:zzf x31) (b32:1≤x32∧x32≤6) (b33:1≤x33∧x33≤6):gZ Try.prog G GB 37 aCy (dJ ([x0,x1,x2,x3,x4,x5,x6,x7,x8,x9,x10,x11,x12,x13,x14,x15,x16,x17,x18,x19,x20,x21,x22,x23,x24,x25,x26,x27,x28,x29,x30,x31,x32,x33]:List Int)):=by
 refine eA (lp:=aG9) (run:=aBZ Try.prog) (fun _=>rfl) fits (cM ⟨b0,b1,b2,b3,b4,b5,b6,b7,b8,b9,b10,b11,b12,b13,b14,b15,b16,b17,b18,b19,b20,b21,b22,b23,b24,b25,b26,b27,b28,b29,b30,b31,b32,b33,trivial⟩) eE (fun X hX hG=>iN hX hG) (fun X hX hG fn c hf hc=>?_) rfl ?_
 ·refine eN (bs:=[bC (aY Try.prog 37) 0]) ((congrArg bD (eV hf hc)).symm.trans pJ) ?_
  intro b hb
  simp only[List.mem_cons,List.mem_nil_iff,or_false]at hb
  subst hb
  refine gD hX hG (by kernel_rfl) ?_
  intro p hp
  simp only[List.mem_cons,List.mem_nil_iff,or_false]at hp
  subst hp
  exact aMg x0 x1 x2 x3 x4 x5 x6 x7 x8 x9 x10 x11 x12 x13 x14 x15 x16 x17 x18 x19 x20 x21 x22 x23 x24 x25 x26 x27 x28 x29 x30 x31 x32 x33
 ·skip
  refine aH aSV ?_
  exact⟨rfl,trivial⟩
set_option maxRecDepth 100000 in
theorem aMA (x0 x1 x2 x3 x4 x5 x6 x7 x8 x9 x10 x11 x12 x13 x14 x15 x16 x17 x18 x19 x20 x21 x22 x23 x24 x25 x26 x27 x28 x29 x30 x31 x32 x33:Int) (b0:zzf x0) (b1:zzf x1) (b2:zzf x2) (b3:zzf x3) (b4:zzf x4) (b5:zzf x5) (b6:zzf x6) (b7:zzf x7) (b8:zzf x8) (b9:zzf x9) (b10:zzf x10) (b11:zzf x11) (b12:zzf x12) (b13:zzf x13) (b14:zzf x14) (b15:zzf x15) (b16:zzf x16) (b17:zzf x17) (b18:zzf x18) (b19:zzf x19) (b20:zzf x20) (b21:zzf x21) (b22:zzf x22) (b23:zzf x23) (b24:zzf x24) (b25:zzf x25) (b26:zzf x26) (b27:zzf x27) (b28:zzf x28) (b29:zzf x29) (b30:zzf x30) (b31:zzf x31) (b32:1≤x32∧x32≤6) (b33:1≤x33∧x33≤6):gZ Try.prog G GB 37 aDp (dJ ([x0,x1,x2,x3,x4,x5,x6,x7,x8,x9,x10,x11,x12,x13,x14,x15,x16,x17,x18,x19,x20,x21,x22,x23,x24,x25,x26,x27,x28,x29,x30,x31,x32,x33]:List Int)):=by
 refine eA (lp:=aED) (run:=aBU Try.prog) (fun _=>rfl) fits (cM ⟨b0,b1,b2,b3,b4,b5,b6,b7,b8,b9,b10,b11,b12,b13,b14,b15,b16,b17,b18,b19,b20,b21,b22,b23,b24,b25,b26,b27,b28,b29,b30,b31,b32,b33,trivial⟩) eE (fun X hX hG=>iN hX hG) (fun X hX hG fn c hf hc=>?_) rfl ?_
 ·refine eN (bs:=[bC (aY Try.prog 37) 0]) ((congrArg bD (eV hf hc)).symm.trans pJ) ?_
  intro b hb
  simp only[List.mem_cons,List.mem_nil_iff,or_false]at hb
  subst hb
  refine gD hX hG (by kernel_rfl) ?_
  intro p hp
  simp only[List.mem_cons,List.mem_nil_iff,or_false]at hp
  subst hp
  exact aLP x0 x1 x2 x3 x4 x5 x6 x7 x8 x9 x10 x11 x12 x13 x14 x15 x16 x17 x18 x19 x20 x21 x22 x23 x24 x25 x26 x27 x28 x29 x30 x31 x32 x33
 ·skip
  refine aH aSm ?_
  exact⟨rfl,trivial⟩
set_option maxRecDepth 100000 in
theorem aMu (x0 x1 x2 x3 x4 x5 x6 x7 x8 x9 x10 x11 x12 x13 x14 x15 x16 x17 x18 x19 x20 x21 x22 x23 x24 x25 x26 x27 x28 x29 x30 x31 x32 x33:Int) (b0:zzf x0) (b1:zzf x1) (b2:zzf x2) (b3:zzf x3) (b4:zzf x4) (b5:zzf x5) (b6:zzf x6) (b7:zzf x7) (b8:zzf x8) (b9:zzf x9) (b10:zzf x10) (b11:zzf x11) (b12:zzf x12) (b13:zzf x13) (b14:zzf x14) (b15:zzf x15) (b16:zzf x16) (b17:zzf x17) (b18:zzf x18) (b19:zzf x19) (b20:zzf x20) (b21:zzf x21) (b22:zzf x22) (b23:zzf x23) (b24:zzf x24) (b25:zzf x25) (b26:zzf x26) (b27:zzf x27) (b28:zzf x28) (b29:zzf x29) (b30:zzf x30) (b31:zzf x31) (b32:1≤x32∧x32≤6) (b33:1≤x33∧x33≤6):gZ Try.prog G GB 37 aDa (dJ ([x0,x1,x2,x3,x4,x5,x6,x7,x8,x9,x10,x11,x12,x13,x14,x15,x16,x17,x18,x19,x20,x21,x22,x23,x24,x25,x26,x27,x28,x29,x30,x31,x32,x33]:List Int)):=by
 refine eA (lp:=aGd) (run:=aBL Try.prog) (fun _=>rfl) fits (cM ⟨b0,b1,b2,b3,b4,b5,b6,b7,b8,b9,b10,b11,b12,b13,b14,b15,b16,b17,b18,b19,b20,b21,b22,b23,b24,b25,b26,b27,b28,b29,b30,b31,b32,b33,trivial⟩) eE (fun X hX hG=>iN hX hG) (fun X hX hG fn c hf hc=>?_) rfl ?_
 ·refine eN (bs:=[bC (aY Try.prog 37) 0]) ((congrArg bD (eV hf hc)).symm.trans pJ) ?_
  intro b hb
  simp only[List.mem_cons,List.mem_nil_iff,or_false]at hb
  subst hb
  refine gD hX hG (by kernel_rfl) ?_
  intro p hp
  simp only[List.mem_cons,List.mem_nil_iff,or_false]at hp
  subst hp
  exact aLW x0 x1 x2 x3 x4 x5 x6 x7 x8 x9 x10 x11 x12 x13 x14 x15 x16 x17 x18 x19 x20 x21 x22 x23 x24 x25 x26 x27 x28 x29 x30 x31 x32 x33
 ·skip
  refine aH aSQ ?_
  exact⟨rfl,trivial⟩
theorem aF {p:Int × Int} {l:List (Int × Int)} {xs:List Int} (h:fE (p::l) xs):∃ x ys,xs=x::ys∧(p.1≤x∧x≤p.2)∧fE l ys:=by
 cases xs with
 |nil=>exact h.elim
 |cons x ys=>exact⟨x,ys,rfl,h.1,h.2⟩
theorem rC {xs:List Int} (h:fE [] xs):xs=[]:=by
 cases xs with
 |nil=>rfl
 |cons x ys=>exact h.elim
def aFV (g h:Ctx→List SV→aL→Res (SV × aL)):Ctx→List SV→aL→Res (SV × aL):=fun X args σ=>
 match g X args σ with
 | .fail _=>h X args σ
 |r=>r
theorem aAY {P:Program} {X:Ctx} {ρ:Nat→Int} {gb:fO} {f:FuncId} {g h:Ctx→List SV→aL→Res (SV × aL)} (hg:gY P X ρ gb f g) (hh:gY P X ρ gb f h):gY P X ρ gb f (aFV g h):=by
 intro args σ s σ' e
 unfold aFV at e
 split at e
 ·exact hh args σ s σ' e
 ·exact hg args σ s σ' e
def aKb:Ctx→List SV→aL→Res (SV × aL):=fL GB kO 0 (.lit true) aEs
theorem aOn {X:Ctx} {ρ:Nat→Int} (hX:X.Ok ρ) (hG:X.G=G):gY Try.prog X ρ GB 37 aKb:=by
 obtain⟨XG,XI,XV,XF⟩:=X
 simp only at hG
 subst hG
 refine dS hX ?_
 intro xs ls hw hl _
 have hl':ls=[]:=List.length_eq_zero_iff.1 hl
 subst hl'
 rw[List.append_nil]
 unfold kO at hw
 obtain⟨x0,y0,e0,b0,h0⟩:=aF hw
 obtain⟨x1,y1,e1,b1,h1⟩:=aF h0
 obtain⟨x2,y2,e2,b2,h2⟩:=aF h1
 obtain⟨x3,y3,e3,b3,h3⟩:=aF h2
 obtain⟨x4,y4,e4,b4,h4⟩:=aF h3
 obtain⟨x5,y5,e5,b5,h5⟩:=aF h4
 obtain⟨x6,y6,e6,b6,h6⟩:=aF h5
 obtain⟨x7,y7,e7,b7,h7⟩:=aF h6
 obtain⟨x8,y8,e8,b8,h8⟩:=aF h7
 obtain⟨x9,y9,e9,b9,h9⟩:=aF h8
 obtain⟨x10,y10,e10,b10,h10⟩:=aF h9
 obtain⟨x11,y11,e11,b11,h11⟩:=aF h10
 obtain⟨x12,y12,e12,b12,h12⟩:=aF h11
 obtain⟨x13,y13,e13,b13,h13⟩:=aF h12
 obtain⟨x14,y14,e14,b14,h14⟩:=aF h13
 obtain⟨x15,y15,e15,b15,h15⟩:=aF h14
 obtain⟨x16,y16,e16,b16,h16⟩:=aF h15
 obtain⟨x17,y17,e17,b17,h17⟩:=aF h16
 obtain⟨x18,y18,e18,b18,h18⟩:=aF h17
 obtain⟨x19,y19,e19,b19,h19⟩:=aF h18
 obtain⟨x20,y20,e20,b20,h20⟩:=aF h19
 obtain⟨x21,y21,e21,b21,h21⟩:=aF h20
 obtain⟨x22,y22,e22,b22,h22⟩:=aF h21
 obtain⟨x23,y23,e23,b23,h23⟩:=aF h22
 obtain⟨x24,y24,e24,b24,h24⟩:=aF h23
 obtain⟨x25,y25,e25,b25,h25⟩:=aF h24
 obtain⟨x26,y26,e26,b26,h26⟩:=aF h25
 obtain⟨x27,y27,e27,b27,h27⟩:=aF h26
 obtain⟨x28,y28,e28,b28,h28⟩:=aF h27
 obtain⟨x29,y29,e29,b29,h29⟩:=aF h28
 obtain⟨x30,y30,e30,b30,h30⟩:=aF h29
 obtain⟨x31,y31,e31,b31,h31⟩:=aF h30
 obtain⟨x32,y32,e32,b32,h32⟩:=aF h31
 obtain⟨x33,y33,e33,b33,h33⟩:=aF h32
 have e34:=rC h33
 subst e34 e33 e32 e31 e30 e29 e28 e27 e26 e25 e24 e23 e22 e21 e20 e19 e18 e17 e16 e15 e14 e13 e12 e11 e10 e9 e8 e7 e6 e5 e4 e3 e2 e1 e0
 exact aLq x0 x1 x2 x3 x4 x5 x6 x7 x8 x9 x10 x11 x12 x13 x14 x15 x16 x17 x18 x19 x20 x21 x22 x23 x24 x25 x26 x27 x28 x29 x30 x31 x32 x33 b0 b1 b2 b3 b4 b5 b6 b7 b8 b9 b10 b11 b12 b13 b14 b15 b16 b17 b18 b19 b20 b21 b22 b23 b24 b25 b26 b27 b28 b29 b30 b31 b32 b33
def aJ6:Ctx→List SV→aL→Res (SV × aL):=fL GB kO 0 (.lit true) aCy
theorem aMT {X:Ctx} {ρ:Nat→Int} (hX:X.Ok ρ) (hG:X.G=G):gY Try.prog X ρ GB 37 aJ6:=by
 obtain⟨XG,XI,XV,XF⟩:=X
 simp only at hG
 subst hG
 refine dS hX ?_
 intro xs ls hw hl _
 have hl':ls=[]:=List.length_eq_zero_iff.1 hl
 subst hl'
 rw[List.append_nil]
 unfold kO at hw
 obtain⟨x0,y0,e0,b0,h0⟩:=aF hw
 obtain⟨x1,y1,e1,b1,h1⟩:=aF h0
 obtain⟨x2,y2,e2,b2,h2⟩:=aF h1
 obtain⟨x3,y3,e3,b3,h3⟩:=aF h2
 obtain⟨x4,y4,e4,b4,h4⟩:=aF h3
 obtain⟨x5,y5,e5,b5,h5⟩:=aF h4
 obtain⟨x6,y6,e6,b6,h6⟩:=aF h5
 obtain⟨x7,y7,e7,b7,h7⟩:=aF h6
 obtain⟨x8,y8,e8,b8,h8⟩:=aF h7
 obtain⟨x9,y9,e9,b9,h9⟩:=aF h8
 obtain⟨x10,y10,e10,b10,h10⟩:=aF h9
 obtain⟨x11,y11,e11,b11,h11⟩:=aF h10
 obtain⟨x12,y12,e12,b12,h12⟩:=aF h11
 obtain⟨x13,y13,e13,b13,h13⟩:=aF h12
 obtain⟨x14,y14,e14,b14,h14⟩:=aF h13
 obtain⟨x15,y15,e15,b15,h15⟩:=aF h14
 obtain⟨x16,y16,e16,b16,h16⟩:=aF h15
 obtain⟨x17,y17,e17,b17,h17⟩:=aF h16
 obtain⟨x18,y18,e18,b18,h18⟩:=aF h17
 obtain⟨x19,y19,e19,b19,h19⟩:=aF h18
 obtain⟨x20,y20,e20,b20,h20⟩:=aF h19
 obtain⟨x21,y21,e21,b21,h21⟩:=aF h20
 obtain⟨x22,y22,e22,b22,h22⟩:=aF h21
 obtain⟨x23,y23,e23,b23,h23⟩:=aF h22
 obtain⟨x24,y24,e24,b24,h24⟩:=aF h23
 obtain⟨x25,y25,e25,b25,h25⟩:=aF h24
 obtain⟨x26,y26,e26,b26,h26⟩:=aF h25
 obtain⟨x27,y27,e27,b27,h27⟩:=aF h26
 obtain⟨x28,y28,e28,b28,h28⟩:=aF h27
 obtain⟨x29,y29,e29,b29,h29⟩:=aF h28
 obtain⟨x30,y30,e30,b30,h30⟩:=aF h29
 obtain⟨x31,y31,e31,b31,h31⟩:=aF h30
 obtain⟨x32,y32,e32,b32,h32⟩:=aF h31
 obtain⟨x33,y33,e33,b33,h33⟩:=aF h32
 have e34:=rC h33
 subst e34 e33 e32 e31 e30 e29 e28 e27 e26 e25 e24 e23 e22 e21 e20 e19 e18 e17 e16 e15 e14 e13 e12 e11 e10 e9 e8 e7 e6 e5 e4 e3 e2 e1 e0
 exact aLZ x0 x1 x2 x3 x4 x5 x6 x7 x8 x9 x10 x11 x12 x13 x14 x15 x16 x17 x18 x19 x20 x21 x22 x23 x24 x25 x26 x27 x28 x29 x30 x31 x32 x33 b0 b1 b2 b3 b4 b5 b6 b7 b8 b9 b10 b11 b12 b13 b14 b15 b16 b17 b18 b19 b20 b21 b22 b23 b24 b25 b26 b27 b28 b29 b30 b31 b32 b33
def aKa:Ctx→List SV→aL→Res (SV × aL):=fL GB kO 0 (.lit true) aDp
theorem aNq {X:Ctx} {ρ:Nat→Int} (hX:X.Ok ρ) (hG:X.G=G):gY Try.prog X ρ GB 37 aKa:=by
 obtain⟨XG,XI,XV,XF⟩:=X
 simp only at hG
 subst hG
 refine dS hX ?_
 intro xs ls hw hl _
 have hl':ls=[]:=List.length_eq_zero_iff.1 hl
 subst hl'
 rw[List.append_nil]
 unfold kO at hw
 obtain⟨x0,y0,e0,b0,h0⟩:=aF hw
 obtain⟨x1,y1,e1,b1,h1⟩:=aF h0
 obtain⟨x2,y2,e2,b2,h2⟩:=aF h1
 obtain⟨x3,y3,e3,b3,h3⟩:=aF h2
 obtain⟨x4,y4,e4,b4,h4⟩:=aF h3
 obtain⟨x5,y5,e5,b5,h5⟩:=aF h4
 obtain⟨x6,y6,e6,b6,h6⟩:=aF h5
 obtain⟨x7,y7,e7,b7,h7⟩:=aF h6
 obtain⟨x8,y8,e8,b8,h8⟩:=aF h7
 obtain⟨x9,y9,e9,b9,h9⟩:=aF h8
 obtain⟨x10,y10,e10,b10,h10⟩:=aF h9
 obtain⟨x11,y11,e11,b11,h11⟩:=aF h10
 obtain⟨x12,y12,e12,b12,h12⟩:=aF h11
 obtain⟨x13,y13,e13,b13,h13⟩:=aF h12
 obtain⟨x14,y14,e14,b14,h14⟩:=aF h13
 obtain⟨x15,y15,e15,b15,h15⟩:=aF h14
 obtain⟨x16,y16,e16,b16,h16⟩:=aF h15
 obtain⟨x17,y17,e17,b17,h17⟩:=aF h16
 obtain⟨x18,y18,e18,b18,h18⟩:=aF h17
 obtain⟨x19,y19,e19,b19,h19⟩:=aF h18
 obtain⟨x20,y20,e20,b20,h20⟩:=aF h19
 obtain⟨x21,y21,e21,b21,h21⟩:=aF h20
 obtain⟨x22,y22,e22,b22,h22⟩:=aF h21
 obtain⟨x23,y23,e23,b23,h23⟩:=aF h22
 obtain⟨x24,y24,e24,b24,h24⟩:=aF h23
 obtain⟨x25,y25,e25,b25,h25⟩:=aF h24
 obtain⟨x26,y26,e26,b26,h26⟩:=aF h25
 obtain⟨x27,y27,e27,b27,h27⟩:=aF h26
 obtain⟨x28,y28,e28,b28,h28⟩:=aF h27
 obtain⟨x29,y29,e29,b29,h29⟩:=aF h28
 obtain⟨x30,y30,e30,b30,h30⟩:=aF h29
 obtain⟨x31,y31,e31,b31,h31⟩:=aF h30
 obtain⟨x32,y32,e32,b32,h32⟩:=aF h31
 obtain⟨x33,y33,e33,b33,h33⟩:=aF h32
 have e34:=rC h33
 subst e34 e33 e32 e31 e30 e29 e28 e27 e26 e25 e24 e23 e22 e21 e20 e19 e18 e17 e16 e15 e14 e13 e12 e11 e10 e9 e8 e7 e6 e5 e4 e3 e2 e1 e0
 exact aMA x0 x1 x2 x3 x4 x5 x6 x7 x8 x9 x10 x11 x12 x13 x14 x15 x16 x17 x18 x19 x20 x21 x22 x23 x24 x25 x26 x27 x28 x29 x30 x31 x32 x33 b0 b1 b2 b3 b4 b5 b6 b7 b8 b9 b10 b11 b12 b13 b14 b15 b16 b17 b18 b19 b20 b21 b22 b23 b24 b25 b26 b27 b28 b29 b30 b31 b32 b33
def aKx:Ctx→List SV→aL→Res (SV × aL):=fL GB kO 0 (.lit true) aDa
theorem aOy {X:Ctx} {ρ:Nat→Int} (hX:X.Ok ρ) (hG:X.G=G):gY Try.prog X ρ GB 37 aKx:=by
 obtain⟨XG,XI,XV,XF⟩:=X
 simp only at hG
 subst hG
 refine dS hX ?_
 intro xs ls hw hl _
 have hl':ls=[]:=List.length_eq_zero_iff.1 hl
 subst hl'
 rw[List.append_nil]
 unfold kO at hw
 obtain⟨x0,y0,e0,b0,h0⟩:=aF hw
 obtain⟨x1,y1,e1,b1,h1⟩:=aF h0
 obtain⟨x2,y2,e2,b2,h2⟩:=aF h1
 obtain⟨x3,y3,e3,b3,h3⟩:=aF h2
 obtain⟨x4,y4,e4,b4,h4⟩:=aF h3
 obtain⟨x5,y5,e5,b5,h5⟩:=aF h4
 obtain⟨x6,y6,e6,b6,h6⟩:=aF h5
 obtain⟨x7,y7,e7,b7,h7⟩:=aF h6
 obtain⟨x8,y8,e8,b8,h8⟩:=aF h7
 obtain⟨x9,y9,e9,b9,h9⟩:=aF h8
 obtain⟨x10,y10,e10,b10,h10⟩:=aF h9
 obtain⟨x11,y11,e11,b11,h11⟩:=aF h10
 obtain⟨x12,y12,e12,b12,h12⟩:=aF h11
 obtain⟨x13,y13,e13,b13,h13⟩:=aF h12
 obtain⟨x14,y14,e14,b14,h14⟩:=aF h13
 obtain⟨x15,y15,e15,b15,h15⟩:=aF h14
 obtain⟨x16,y16,e16,b16,h16⟩:=aF h15
 obtain⟨x17,y17,e17,b17,h17⟩:=aF h16
 obtain⟨x18,y18,e18,b18,h18⟩:=aF h17
 obtain⟨x19,y19,e19,b19,h19⟩:=aF h18
 obtain⟨x20,y20,e20,b20,h20⟩:=aF h19
 obtain⟨x21,y21,e21,b21,h21⟩:=aF h20
 obtain⟨x22,y22,e22,b22,h22⟩:=aF h21
 obtain⟨x23,y23,e23,b23,h23⟩:=aF h22
 obtain⟨x24,y24,e24,b24,h24⟩:=aF h23
 obtain⟨x25,y25,e25,b25,h25⟩:=aF h24
 obtain⟨x26,y26,e26,b26,h26⟩:=aF h25
 obtain⟨x27,y27,e27,b27,h27⟩:=aF h26
 obtain⟨x28,y28,e28,b28,h28⟩:=aF h27
 obtain⟨x29,y29,e29,b29,h29⟩:=aF h28
 obtain⟨x30,y30,e30,b30,h30⟩:=aF h29
 obtain⟨x31,y31,e31,b31,h31⟩:=aF h30
 obtain⟨x32,y32,e32,b32,h32⟩:=aF h31
 obtain⟨x33,y33,e33,b33,h33⟩:=aF h32
 have e34:=rC h33
 subst e34 e33 e32 e31 e30 e29 e28 e27 e26 e25 e24 e23 e22 e21 e20 e19 e18 e17 e16 e15 e14 e13 e12 e11 e10 e9 e8 e7 e6 e5 e4 e3 e2 e1 e0
 exact aMu x0 x1 x2 x3 x4 x5 x6 x7 x8 x9 x10 x11 x12 x13 x14 x15 x16 x17 x18 x19 x20 x21 x22 x23 x24 x25 x26 x27 x28 x29 x30 x31 x32 x33 b0 b1 b2 b3 b4 b5 b6 b7 b8 b9 b10 b11 b12 b13 b14 b15 b16 b17 b18 b19 b20 b21 b22 b23 b24 b25 b26 b27 b28 b29 b30 b31 b32 b33
def aCL:bS:=kN 37 (aFV aKb (aFV aJ6 (aFV aKa aKx))) nS
theorem aAt {X:Ctx} {ρ:Nat→Int} (hX:X.Ok ρ) (hG:X.G=G):lJ Try.prog X ρ GB aCL:=iK (aAY (aOn hX hG) (aAY (aMT hX hG) (aAY (aNq hX hG) (aOy hX hG)))) (iN hX hG)
set_option maxRecDepth 100000
open Go Go.RowKit Sx Wi
def aK2 (P:Program) (fs:List B):Res SV:=xH P fs
def aFo:List B:=[]
def aHk:B:=(.cmp .lt (.var 34) (.op .sub (.op .shl (.lit 1) (.var 32)) (.lit 1)))
def aQV:List B:=aK aHk++aFo
def aPb:List B:=aK (B.neg aHk)++aFo
theorem aQG:aK2 Try.prog aQV = .ok (.agg [(.int .i64 (.op .add (.var 34) (.lit 1))),(.int .i64 (.var 34)),(.int .i64 (.op .mul (.op .mul (.lit 2) (.var 34)) (.op .sub (.op .shl (.lit 1) (.var 32)) (.lit 2)))),(.int .i64 (.var 35)),(.int .i64 (.app 41 (.cons (.var 0) (.cons (.var 1) (.cons (.var 2) (.cons (.var 3) (.cons (.var 4) (.cons (.var 5) (.cons (.var 6) (.cons (.var 7) (.cons (.var 8) (.cons (.var 9) (.cons (.var 10) (.cons (.var 11) (.cons (.var 12) (.cons (.var 13) (.cons (.var 14) (.cons (.var 15) (.cons (.var 16) (.cons (.var 17) (.cons (.var 18) (.cons (.var 19) (.cons (.var 20) (.cons (.var 21) (.cons (.var 22) (.cons (.var 23) (.cons (.var 24) (.cons (.var 25) (.cons (.var 26) (.cons (.var 27) (.cons (.var 28) (.cons (.var 29) (.cons (.var 30) (.cons (.var 31) (.cons (.var 32) (.cons (.op .add (.var 34) (.lit 1)) .nil)))))))))))))))))))))))))))))))))))),(.int .i64 (.var 36)),(.int .i64 (.op .mul (.op .mul (.lit 2) (.var 34)) (.op .sub (.op .shl (.lit 1) (.var 32)) (.lit 2)))),(.int .i64 (.var 35))]):=by kernel_rfl
theorem aOL:aK2 Try.prog aPb = .ok (.tuple [(.agg [(.int .i64 (.var 35)),(.int .i64 (.op .mul (.op .mul (.lit 2) (.op .sub (.op .shl (.lit 1) (.var 32)) (.lit 2))) (.op .sub (.op .shl (.lit 1) (.var 32)) (.lit 2)))),(.int .i64 (.var 36)),(.int .i64 (.app 41 (.cons (.var 0) (.cons (.var 1) (.cons (.var 2) (.cons (.var 3) (.cons (.var 4) (.cons (.var 5) (.cons (.var 6) (.cons (.var 7) (.cons (.var 8) (.cons (.var 9) (.cons (.var 10) (.cons (.var 11) (.cons (.var 12) (.cons (.var 13) (.cons (.var 14) (.cons (.var 15) (.cons (.var 16) (.cons (.var 17) (.cons (.var 18) (.cons (.var 19) (.cons (.var 20) (.cons (.var 21) (.cons (.var 22) (.cons (.var 23) (.cons (.var 24) (.cons (.var 25) (.cons (.var 26) (.cons (.var 27) (.cons (.var 28) (.cons (.var 29) (.cons (.var 30) (.cons (.var 31) (.cons (.var 32) (.cons (.op .sub (.op .shl (.lit 1) (.var 32)) (.lit 1)) .nil)))))))))))))))))))))))))))))))))))),(.int .i64 (.var 35)),(.int .i64 (.op .mul (.op .mul (.lit 2) (.op .sub (.op .shl (.lit 1) (.var 32)) (.lit 2))) (.op .sub (.op .shl (.lit 1) (.var 32)) (.lit 2))))]),(.bool (.lit true))]):=by kernel_rfl
set_option maxRecDepth 100000
open Go Go.RowKit Sx Wi
def aPt (P:Program) (fs:List B):Res SV:=aBk P fs
def aJp:List B:=[]
def aKu:B:=(.cmp .lt (.var 35) (.op .sub (.op .shl (.lit 1) (.var 32)) (.lit 1)))
def aRt:List B:=aK aKu++aJp
def aSW:B:=(.and (.cmp .le (.lit 0) (.var 32)) (.and (.cmp .le (.var 32) (.lit 6)) (.and (.cmp .le (.lit 0) (.var 34)) (.and (.cmp .le (.var 34) (.op .shl (.lit 1) (.var 32))) (.and (.cmp .le (.lit 0) (.var 35)) (.and (.cmp .le (.var 35) (.op .shl (.lit 1) (.var 32))) zzG))))))
def aTE:List B:=aK aSW++aRt
def aRK:B:=(.and (.cmp .le (.lit 0) (.var 32)) (.and (.cmp .le (.var 32) (.lit 6)) (.and (.cmp .le (.lit 0) (.op .add (.var 34) (.lit 1))) (.and (.cmp .le (.op .add (.var 34) (.lit 1)) (.op .shl (.lit 1) (.var 32))) (.and (.cmp .le (.lit 0) (.var 35)) (.and (.cmp .le (.var 35) (.op .shl (.lit 1) (.var 32))) zzG))))))
def aRj:List B:=aK aRK++aTE
def aR4:B:=(.and (.cmp .le (.lit 0) (.var 32)) (.and (.cmp .le (.var 32) (.lit 6)) (.and (.cmp .le (.lit 0) (.op .add (.var 34) (.lit 1))) (.and (.cmp .le (.op .add (.var 34) (.lit 1)) (.op .shl (.lit 1) (.var 32))) (.and (.cmp .le (.lit 0) (.op .add (.var 35) (.lit 1))) (.and (.cmp .le (.op .add (.var 35) (.lit 1)) (.op .shl (.lit 1) (.var 32))) zzG))))))
def aS4:List B:=aK aR4++aRj
def aQ9:List B:=aK (B.neg aKu)++aJp
theorem aRn:aPt Try.prog aS4 = .ok (.agg [(.int .i64 (.op .add (.var 35) (.lit 1))),(.int .i64 (.var 35)),(.int .i64 (.op .add (.op .add (.var 36) (.lit 1)) (.lit 1))),(.int .i64 (.var 36)),(.int .i64 (.app 91 (.cons (.app 91 (.cons (.var 37) (.cons (.app 11 (.cons (.var 0) (.cons (.var 2) (.cons (.var 4) (.cons (.var 6) (.cons (.var 8) (.cons (.var 10) (.cons (.var 12) (.cons (.var 14) (.cons (.var 16) (.cons (.var 18) (.cons (.var 20) (.cons (.var 22) (.cons (.var 24) (.cons (.var 26) (.cons (.var 28) (.cons (.var 30) (.cons (.var 34) (.cons (.var 35) (.cons (.var 32) .nil)))))))))))))))))))) (.cons (.app 11 (.cons (.var 1) (.cons (.var 3) (.cons (.var 5) (.cons (.var 7) (.cons (.var 9) (.cons (.var 11) (.cons (.var 13) (.cons (.var 15) (.cons (.var 17) (.cons (.var 19) (.cons (.var 21) (.cons (.var 23) (.cons (.var 25) (.cons (.var 27) (.cons (.var 29) (.cons (.var 31) (.cons (.var 34) (.cons (.var 35) (.cons (.var 32) .nil)))))))))))))))))))) (.cons (.app 11 (.cons (.var 0) (.cons (.var 2) (.cons (.var 4) (.cons (.var 6) (.cons (.var 8) (.cons (.var 10) (.cons (.var 12) (.cons (.var 14) (.cons (.var 16) (.cons (.var 18) (.cons (.var 20) (.cons (.var 22) (.cons (.var 24) (.cons (.var 26) (.cons (.var 28) (.cons (.var 30) (.cons (.op .add (.var 34) (.lit 1)) (.cons (.var 35) (.cons (.var 32) .nil)))))))))))))))))))) (.cons (.app 11 (.cons (.var 1) (.cons (.var 3) (.cons (.var 5) (.cons (.var 7) (.cons (.var 9) (.cons (.var 11) (.cons (.var 13) (.cons (.var 15) (.cons (.var 17) (.cons (.var 19) (.cons (.var 21) (.cons (.var 23) (.cons (.var 25) (.cons (.var 27) (.cons (.var 29) (.cons (.var 31) (.cons (.op .add (.var 34) (.lit 1)) (.cons (.var 35) (.cons (.var 32) .nil)))))))))))))))))))) (.cons (.app 11 (.cons (.var 0) (.cons (.var 2) (.cons (.var 4) (.cons (.var 6) (.cons (.var 8) (.cons (.var 10) (.cons (.var 12) (.cons (.var 14) (.cons (.var 16) (.cons (.var 18) (.cons (.var 20) (.cons (.var 22) (.cons (.var 24) (.cons (.var 26) (.cons (.var 28) (.cons (.var 30) (.cons (.op .add (.var 34) (.lit 1)) (.cons (.op .add (.var 35) (.lit 1)) (.cons (.var 32) .nil)))))))))))))))))))) (.cons (.app 11 (.cons (.var 1) (.cons (.var 3) (.cons (.var 5) (.cons (.var 7) (.cons (.var 9) (.cons (.var 11) (.cons (.var 13) (.cons (.var 15) (.cons (.var 17) (.cons (.var 19) (.cons (.var 21) (.cons (.var 23) (.cons (.var 25) (.cons (.var 27) (.cons (.var 29) (.cons (.var 31) (.cons (.op .add (.var 34) (.lit 1)) (.cons (.op .add (.var 35) (.lit 1)) (.cons (.var 32) .nil)))))))))))))))))))) (.cons (.op .mul (.op .fdiv (.lit 65536) (.op .shl (.lit 1) (.var 32))) (.var 34)) (.cons (.op .mul (.op .fdiv (.lit 65536) (.op .shl (.lit 1) (.var 32))) (.op .add (.var 34) (.lit 1))) (.cons (.op .mul (.op .fdiv (.lit 65536) (.op .shl (.lit 1) (.var 32))) (.op .add (.var 34) (.lit 1))) (.cons (.op .mul (.op .fdiv (.lit 65536) (.op .shl (.lit 1) (.var 32))) (.var 35)) (.cons (.op .mul (.op .fdiv (.lit 65536) (.op .shl (.lit 1) (.var 32))) (.var 35)) (.cons (.op .mul (.op .fdiv (.lit 65536) (.op .shl (.lit 1) (.var 32))) (.op .add (.var 35) (.lit 1))) .nil)))))))))))))) (.cons (.app 11 (.cons (.var 0) (.cons (.var 2) (.cons (.var 4) (.cons (.var 6) (.cons (.var 8) (.cons (.var 10) (.cons (.var 12) (.cons (.var 14) (.cons (.var 16) (.cons (.var 18) (.cons (.var 20) (.cons (.var 22) (.cons (.var 24) (.cons (.var 26) (.cons (.var 28) (.cons (.var 30) (.cons (.var 34) (.cons (.var 35) (.cons (.var 32) .nil)))))))))))))))))))) (.cons (.app 11 (.cons (.var 1) (.cons (.var 3) (.cons (.var 5) (.cons (.var 7) (.cons (.var 9) (.cons (.var 11) (.cons (.var 13) (.cons (.var 15) (.cons (.var 17) (.cons (.var 19) (.cons (.var 21) (.cons (.var 23) (.cons (.var 25) (.cons (.var 27) (.cons (.var 29) (.cons (.var 31) (.cons (.var 34) (.cons (.var 35) (.cons (.var 32) .nil)))))))))))))))))))) (.cons (.app 11 (.cons (.var 0) (.cons (.var 2) (.cons (.var 4) (.cons (.var 6) (.cons (.var 8) (.cons (.var 10) (.cons (.var 12) (.cons (.var 14) (.cons (.var 16) (.cons (.var 18) (.cons (.var 20) (.cons (.var 22) (.cons (.var 24) (.cons (.var 26) (.cons (.var 28) (.cons (.var 30) (.cons (.op .add (.var 34) (.lit 1)) (.cons (.op .add (.var 35) (.lit 1)) (.cons (.var 32) .nil)))))))))))))))))))) (.cons (.app 11 (.cons (.var 1) (.cons (.var 3) (.cons (.var 5) (.cons (.var 7) (.cons (.var 9) (.cons (.var 11) (.cons (.var 13) (.cons (.var 15) (.cons (.var 17) (.cons (.var 19) (.cons (.var 21) (.cons (.var 23) (.cons (.var 25) (.cons (.var 27) (.cons (.var 29) (.cons (.var 31) (.cons (.op .add (.var 34) (.lit 1)) (.cons (.op .add (.var 35) (.lit 1)) (.cons (.var 32) .nil)))))))))))))))))))) (.cons (.app 11 (.cons (.var 0) (.cons (.var 2) (.cons (.var 4) (.cons (.var 6) (.cons (.var 8) (.cons (.var 10) (.cons (.var 12) (.cons (.var 14) (.cons (.var 16) (.cons (.var 18) (.cons (.var 20) (.cons (.var 22) (.cons (.var 24) (.cons (.var 26) (.cons (.var 28) (.cons (.var 30) (.cons (.var 34) (.cons (.op .add (.var 35) (.lit 1)) (.cons (.var 32) .nil)))))))))))))))))))) (.cons (.app 11 (.cons (.var 1) (.cons (.var 3) (.cons (.var 5) (.cons (.var 7) (.cons (.var 9) (.cons (.var 11) (.cons (.var 13) (.cons (.var 15) (.cons (.var 17) (.cons (.var 19) (.cons (.var 21) (.cons (.var 23) (.cons (.var 25) (.cons (.var 27) (.cons (.var 29) (.cons (.var 31) (.cons (.var 34) (.cons (.op .add (.var 35) (.lit 1)) (.cons (.var 32) .nil)))))))))))))))))))) (.cons (.op .mul (.op .fdiv (.lit 65536) (.op .shl (.lit 1) (.var 32))) (.var 34)) (.cons (.op .mul (.op .fdiv (.lit 65536) (.op .shl (.lit 1) (.var 32))) (.op .add (.var 34) (.lit 1))) (.cons (.op .mul (.op .fdiv (.lit 65536) (.op .shl (.lit 1) (.var 32))) (.var 34)) (.cons (.op .mul (.op .fdiv (.lit 65536) (.op .shl (.lit 1) (.var 32))) (.var 35)) (.cons (.op .mul (.op .fdiv (.lit 65536) (.op .shl (.lit 1) (.var 32))) (.op .add (.var 35) (.lit 1))) (.cons (.op .mul (.op .fdiv (.lit 65536) (.op .shl (.lit 1) (.var 32))) (.op .add (.var 35) (.lit 1))) .nil))))))))))))))),(.int .i64 (.var 37)),(.int .i64 (.op .add (.op .add (.var 36) (.lit 1)) (.lit 1))),(.int .i64 (.var 36))]):=by kernel_rfl
theorem aTe:aPt Try.prog aQ9 = .ok (.tuple [(.agg [(.int .i64 (.var 36)),(.int .i64 (.op .mul (.op .mul (.lit 2) (.var 34)) (.op .sub (.op .shl (.lit 1) (.var 32)) (.lit 2)))),(.int .i64 (.var 37)),(.int .i64 (.app 41 (.cons (.var 0) (.cons (.var 1) (.cons (.var 2) (.cons (.var 3) (.cons (.var 4) (.cons (.var 5) (.cons (.var 6) (.cons (.var 7) (.cons (.var 8) (.cons (.var 9) (.cons (.var 10) (.cons (.var 11) (.cons (.var 12) (.cons (.var 13) (.cons (.var 14) (.cons (.var 15) (.cons (.var 16) (.cons (.var 17) (.cons (.var 18) (.cons (.var 19) (.cons (.var 20) (.cons (.var 21) (.cons (.var 22) (.cons (.var 23) (.cons (.var 24) (.cons (.var 25) (.cons (.var 26) (.cons (.var 27) (.cons (.var 28) (.cons (.var 29) (.cons (.var 30) (.cons (.var 31) (.cons (.var 32) (.cons (.op .add (.var 34) (.lit 1)) .nil)))))))))))))))))))))))))))))))))))),(.int .i64 (.var 36)),(.int .i64 (.op .mul (.op .mul (.lit 2) (.var 34)) (.op .sub (.op .shl (.lit 1) (.var 32)) (.lit 2))))]),(.bool (.lit true))]):=by kernel_rfl
end Go.Proofs.Ytkpdiehbaiepaaa
