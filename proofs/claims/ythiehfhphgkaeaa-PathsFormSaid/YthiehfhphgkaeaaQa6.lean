/- What is proved: a aL1 of a move and lines,as it is told. No condition but the numbers' own bounds. -/
import Derived.Test.YthiehfhphgkaeaaQa5
import Derived.Test.YthiehfhphgkaeaaQg6
import Derived.Test.YthiehfhphgkaeaaQg4
import Derived.Test.YthiehfhphgkaeaaQa1
import Derived.Test.YthiehfhphgkaeaaQa4
import Derived.Test.YthiehfhphgkaeaaProg
set_option linter.unusedSimpArgs false
set_option linter.unusedVariables false
namespace Go.Proofs.Ythiehfhphgkaeaa
open Go Go.RowKit Sx Wi
def tA (g h:Ctx→List SV→aG→Res (SV × aG)):Ctx→List SV→aG→Res (SV × aG):=fun X args σ=>
 match g X args σ with
 | .fail _=>h X args σ
 |r=>r
theorem lV {P:Program} {X:Ctx} {ρ:Nat→Int} {gb:cV} {f:FuncId} {g h:Ctx→List SV→aG→Res (SV × aG)} (hg:eY P X ρ gb f g) (hh:eY P X ρ gb f h):eY P X ρ gb f (tA g h):=by
 intro args σ s σ' e
 unfold tA at e
 split at e
 ·exact hh args σ s σ' e
 ·exact hg args σ s σ' e
set_option maxRecDepth 100000 in
theorem aBQ (x0 x1 x2 x3 x4 x5:Int) (b0 : -2147483648≤x0∧x0≤2147483647) (b1 : -2147483648≤x1∧x1≤2147483647) (b2 : -2147483648≤x2∧x2≤2147483647) (b3 : -2147483648≤x3∧x3≤2147483647) (b4 : -2147483648≤x4∧x4≤2147483647) (b5 : -2147483648≤x5∧x5≤2147483647):eC Try.prog G GB 16 vL (eH ([x0,x1,x2,x3,x4,x5]:List Int)):=by
 refine cS (lp:=dE) (run:=vN Try.prog) (fun _=>rfl) fits (dC ⟨b0,b1,b2,b3,b4,b5,trivial⟩) eL (fun X hX hG=>bQ hX hG) (fun X hX hG fn c hf hc=>cH) rfl ?_
 refine aM aE3 ?_
 exact⟨rfl,trivial⟩
def aAP:Ctx→List SV→aG→Res (SV × aG):=dH GB pO 0 (.lit true) vL
theorem aEs {X:Ctx} {ρ:Nat→Int} (hX:X.Ok ρ) (hG:X.G=G):eY Try.prog X ρ GB 16 aAP:=by
 obtain⟨XG,XI,XV,XF⟩:=X
 simp only at hG
 subst hG
 refine cL hX ?_
 intro xs ls hw hl _
 have hl':ls=[]:=List.length_eq_zero_iff.1 hl
 subst hl'
 rw[List.append_nil]
 unfold pO at hw
 obtain⟨x0,y0,e0,b0,h0⟩:=aL hw
 obtain⟨x1,y1,e1,b1,h1⟩:=aL h0
 obtain⟨x2,y2,e2,b2,h2⟩:=aL h1
 obtain⟨x3,y3,e3,b3,h3⟩:=aL h2
 obtain⟨x4,y4,e4,b4,h4⟩:=aL h3
 obtain⟨x5,y5,e5,b5,h5⟩:=aL h4
 have e6:=oA h5
 subst e6 e5 e4 e3 e2 e1 e0
 exact aBQ x0 x1 x2 x3 x4 x5 b0 b1 b2 b3 b4 b5
set_option maxRecDepth 100000 in
theorem aBz (x0 x1 x2 x3 x4 x5 x6 x7 x8 x9 x10 x11:Int) (b0 : -2147483648≤x0∧x0≤2147483647) (b1 : -2147483648≤x1∧x1≤2147483647) (b2 : -2147483648≤x2∧x2≤2147483647) (b3 : -2147483648≤x3∧x3≤2147483647) (b4 : -2147483648≤x4∧x4≤2147483647) (b5 : -2147483648≤x5∧x5≤2147483647) (b6 : -2147483648≤x6∧x6≤2147483647) (b7 : -2147483648≤x7∧x7≤2147483647) (b8 : -2147483648≤x8∧x8≤2147483647) (b9 : -2147483648≤x9∧x9≤2147483647) (b10 : -2147483648≤x10∧x10≤2147483647) (b11 : -2147483648≤x11∧x11≤2147483647):eC Try.prog G GB 16 uS (eH ([x0,x1,x2,x3,x4,x5,x6,x7,x8,x9,x10,x11]:List Int)):=by
 refine cS (lp:=dE) (run:=sU Try.prog) (fun _=>rfl) fits (dC ⟨b0,b1,b2,b3,b4,b5,b6,b7,b8,b9,b10,b11,trivial⟩) eL (fun X hX hG=>bQ hX hG) (fun X hX hG fn c hf hc=>cH) rfl ?_
 refine aM aEn ?_
 exact⟨rfl,trivial⟩
def aBb:Ctx→List SV→aG→Res (SV × aG):=dH GB rI 0 (.lit true) uS
theorem aEt {X:Ctx} {ρ:Nat→Int} (hX:X.Ok ρ) (hG:X.G=G):eY Try.prog X ρ GB 16 aBb:=by
 obtain⟨XG,XI,XV,XF⟩:=X
 simp only at hG
 subst hG
 refine cL hX ?_
 intro xs ls hw hl _
 have hl':ls=[]:=List.length_eq_zero_iff.1 hl
 subst hl'
 rw[List.append_nil]
 unfold rI at hw
 obtain⟨x0,y0,e0,b0,h0⟩:=aL hw
 obtain⟨x1,y1,e1,b1,h1⟩:=aL h0
 obtain⟨x2,y2,e2,b2,h2⟩:=aL h1
 obtain⟨x3,y3,e3,b3,h3⟩:=aL h2
 obtain⟨x4,y4,e4,b4,h4⟩:=aL h3
 obtain⟨x5,y5,e5,b5,h5⟩:=aL h4
 obtain⟨x6,y6,e6,b6,h6⟩:=aL h5
 obtain⟨x7,y7,e7,b7,h7⟩:=aL h6
 obtain⟨x8,y8,e8,b8,h8⟩:=aL h7
 obtain⟨x9,y9,e9,b9,h9⟩:=aL h8
 obtain⟨x10,y10,e10,b10,h10⟩:=aL h9
 obtain⟨x11,y11,e11,b11,h11⟩:=aL h10
 have e12:=oA h11
 subst e12 e11 e10 e9 e8 e7 e6 e5 e4 e3 e2 e1 e0
 exact aBz x0 x1 x2 x3 x4 x5 x6 x7 x8 x9 x10 x11 b0 b1 b2 b3 b4 b5 b6 b7 b8 b9 b10 b11
set_option maxRecDepth 100000 in
theorem aBU (x0 x1 x2 x3 x4 x5 x6 x7 x8 x9 x10 x11 x12 x13 x14 x15 x16 x17:Int) (b0 : -2147483648≤x0∧x0≤2147483647) (b1 : -2147483648≤x1∧x1≤2147483647) (b2 : -2147483648≤x2∧x2≤2147483647) (b3 : -2147483648≤x3∧x3≤2147483647) (b4 : -2147483648≤x4∧x4≤2147483647) (b5 : -2147483648≤x5∧x5≤2147483647) (b6 : -2147483648≤x6∧x6≤2147483647) (b7 : -2147483648≤x7∧x7≤2147483647) (b8 : -2147483648≤x8∧x8≤2147483647) (b9 : -2147483648≤x9∧x9≤2147483647) (b10 : -2147483648≤x10∧x10≤2147483647) (b11 : -2147483648≤x11∧x11≤2147483647) (b12 : -2147483648≤x12∧x12≤2147483647) (b13 : -2147483648≤x13∧x13≤2147483647) (b14 : -2147483648≤x14∧x14≤2147483647) (b15 : -2147483648≤x15∧x15≤2147483647) (b16 : -2147483648≤x16∧x16≤2147483647) (b17 : -2147483648≤x17∧x17≤2147483647):eC Try.prog G GB 16 tI (eH ([x0,x1,x2,x3,x4,x5,x6,x7,x8,x9,x10,x11,x12,x13,x14,x15,x16,x17]:List Int)):=by
 refine cS (lp:=dE) (run:=vI Try.prog) (fun _=>rfl) fits (dC ⟨b0,b1,b2,b3,b4,b5,b6,b7,b8,b9,b10,b11,b12,b13,b14,b15,b16,b17,trivial⟩) eL (fun X hX hG=>bQ hX hG) (fun X hX hG fn c hf hc=>cH) rfl ?_
 refine aM aFZ ?_
 exact⟨rfl,trivial⟩
def aAp:Ctx→List SV→aG→Res (SV × aG):=dH GB qO 0 (.lit true) tI
theorem aFs {X:Ctx} {ρ:Nat→Int} (hX:X.Ok ρ) (hG:X.G=G):eY Try.prog X ρ GB 16 aAp:=by
 obtain⟨XG,XI,XV,XF⟩:=X
 simp only at hG
 subst hG
 refine cL hX ?_
 intro xs ls hw hl _
 have hl':ls=[]:=List.length_eq_zero_iff.1 hl
 subst hl'
 rw[List.append_nil]
 unfold qO at hw
 obtain⟨x0,y0,e0,b0,h0⟩:=aL hw
 obtain⟨x1,y1,e1,b1,h1⟩:=aL h0
 obtain⟨x2,y2,e2,b2,h2⟩:=aL h1
 obtain⟨x3,y3,e3,b3,h3⟩:=aL h2
 obtain⟨x4,y4,e4,b4,h4⟩:=aL h3
 obtain⟨x5,y5,e5,b5,h5⟩:=aL h4
 obtain⟨x6,y6,e6,b6,h6⟩:=aL h5
 obtain⟨x7,y7,e7,b7,h7⟩:=aL h6
 obtain⟨x8,y8,e8,b8,h8⟩:=aL h7
 obtain⟨x9,y9,e9,b9,h9⟩:=aL h8
 obtain⟨x10,y10,e10,b10,h10⟩:=aL h9
 obtain⟨x11,y11,e11,b11,h11⟩:=aL h10
 obtain⟨x12,y12,e12,b12,h12⟩:=aL h11
 obtain⟨x13,y13,e13,b13,h13⟩:=aL h12
 obtain⟨x14,y14,e14,b14,h14⟩:=aL h13
 obtain⟨x15,y15,e15,b15,h15⟩:=aL h14
 obtain⟨x16,y16,e16,b16,h16⟩:=aL h15
 obtain⟨x17,y17,e17,b17,h17⟩:=aL h16
 have e18:=oA h17
 subst e18 e17 e16 e15 e14 e13 e12 e11 e10 e9 e8 e7 e6 e5 e4 e3 e2 e1 e0
 exact aBU x0 x1 x2 x3 x4 x5 x6 x7 x8 x9 x10 x11 x12 x13 x14 x15 x16 x17 b0 b1 b2 b3 b4 b5 b6 b7 b8 b9 b10 b11 b12 b13 b14 b15 b16 b17
set_option maxRecDepth 100000 in
theorem aCG (x0 x1 x2 x3 x4 x5 x6 x7 x8 x9 x10 x11 x12 x13 x14 x15 x16 x17 x18 x19 x20 x21 x22 x23:Int) (b0 : -2147483648≤x0∧x0≤2147483647) (b1 : -2147483648≤x1∧x1≤2147483647) (b2 : -2147483648≤x2∧x2≤2147483647) (b3 : -2147483648≤x3∧x3≤2147483647) (b4 : -2147483648≤x4∧x4≤2147483647) (b5 : -2147483648≤x5∧x5≤2147483647) (b6 : -2147483648≤x6∧x6≤2147483647) (b7 : -2147483648≤x7∧x7≤2147483647) (b8 : -2147483648≤x8∧x8≤2147483647) (b9 : -2147483648≤x9∧x9≤2147483647) (b10 : -2147483648≤x10∧x10≤2147483647) (b11 : -2147483648≤x11∧x11≤2147483647) (b12 : -2147483648≤x12∧x12≤2147483647) (b13 : -2147483648≤x13∧x13≤2147483647) (b14 : -2147483648≤x14∧x14≤2147483647) (b15 : -2147483648≤x15∧x15≤2147483647) (b16 : -2147483648≤x16∧x16≤2147483647) (b17 : -2147483648≤x17∧x17≤2147483647) (b18 : -2147483648≤x18∧x18≤2147483647) (b19 : -2147483648≤x19∧x19≤2147483647) (b20 : -2147483648≤x20∧x20≤2147483647) (b21 : -2147483648≤x21∧x21≤2147483647) (b22 : -2147483648≤x22∧x22≤2147483647) (b23 : -2147483648≤x23∧x23≤2147483647):eC Try.prog G GB 16 uA (eH ([x0,x1,x2,x3,x4,x5,x6,x7,x8,x9,x10,x11,x12,x13,x14,x15,x16,x17,x18,x19,x20,x21,x22,x23]:List Int)):=by
 refine cS (lp:=dE) (run:=tO Try.prog) (fun _=>rfl) fits (dC ⟨b0,b1,b2,b3,b4,b5,b6,b7,b8,b9,b10,b11,b12,b13,b14,b15,b16,b17,b18,b19,b20,b21,b22,b23,trivial⟩) eL (fun X hX hG=>bQ hX hG) (fun X hX hG fn c hf hc=>cH) rfl ?_
 refine aM aE6 ?_
 exact⟨rfl,trivial⟩
def aAL:Ctx→List SV→aG→Res (SV × aG):=dH GB qQ 0 (.lit true) uA
theorem aEE {X:Ctx} {ρ:Nat→Int} (hX:X.Ok ρ) (hG:X.G=G):eY Try.prog X ρ GB 16 aAL:=by
 obtain⟨XG,XI,XV,XF⟩:=X
 simp only at hG
 subst hG
 refine cL hX ?_
 intro xs ls hw hl _
 have hl':ls=[]:=List.length_eq_zero_iff.1 hl
 subst hl'
 rw[List.append_nil]
 unfold qQ at hw
 obtain⟨x0,y0,e0,b0,h0⟩:=aL hw
 obtain⟨x1,y1,e1,b1,h1⟩:=aL h0
 obtain⟨x2,y2,e2,b2,h2⟩:=aL h1
 obtain⟨x3,y3,e3,b3,h3⟩:=aL h2
 obtain⟨x4,y4,e4,b4,h4⟩:=aL h3
 obtain⟨x5,y5,e5,b5,h5⟩:=aL h4
 obtain⟨x6,y6,e6,b6,h6⟩:=aL h5
 obtain⟨x7,y7,e7,b7,h7⟩:=aL h6
 obtain⟨x8,y8,e8,b8,h8⟩:=aL h7
 obtain⟨x9,y9,e9,b9,h9⟩:=aL h8
 obtain⟨x10,y10,e10,b10,h10⟩:=aL h9
 obtain⟨x11,y11,e11,b11,h11⟩:=aL h10
 obtain⟨x12,y12,e12,b12,h12⟩:=aL h11
 obtain⟨x13,y13,e13,b13,h13⟩:=aL h12
 obtain⟨x14,y14,e14,b14,h14⟩:=aL h13
 obtain⟨x15,y15,e15,b15,h15⟩:=aL h14
 obtain⟨x16,y16,e16,b16,h16⟩:=aL h15
 obtain⟨x17,y17,e17,b17,h17⟩:=aL h16
 obtain⟨x18,y18,e18,b18,h18⟩:=aL h17
 obtain⟨x19,y19,e19,b19,h19⟩:=aL h18
 obtain⟨x20,y20,e20,b20,h20⟩:=aL h19
 obtain⟨x21,y21,e21,b21,h21⟩:=aL h20
 obtain⟨x22,y22,e22,b22,h22⟩:=aL h21
 obtain⟨x23,y23,e23,b23,h23⟩:=aL h22
 have e24:=oA h23
 subst e24 e23 e22 e21 e20 e19 e18 e17 e16 e15 e14 e13 e12 e11 e10 e9 e8 e7 e6 e5 e4 e3 e2 e1 e0
 exact aCG x0 x1 x2 x3 x4 x5 x6 x7 x8 x9 x10 x11 x12 x13 x14 x15 x16 x17 x18 x19 x20 x21 x22 x23 b0 b1 b2 b3 b4 b5 b6 b7 b8 b9 b10 b11 b12 b13 b14 b15 b16 b17 b18 b19 b20 b21 b22 b23
set_option maxRecDepth 100000 in
theorem aB4 (x0 x1 x2 x3 x4 x5 x6 x7 x8 x9 x10 x11 x12 x13 x14 x15 x16 x17:Int) (b0 : -2147483648≤x0∧x0≤2147483647) (b1 : -2147483648≤x1∧x1≤2147483647) (b2 : -2147483648≤x2∧x2≤2147483647) (b3 : -2147483648≤x3∧x3≤2147483647) (b4 : -2147483648≤x4∧x4≤2147483647) (b5 : -2147483648≤x5∧x5≤2147483647) (b6 : -2147483648≤x6∧x6≤2147483647) (b7 : -2147483648≤x7∧x7≤2147483647) (b8 : -2147483648≤x8∧x8≤2147483647) (b9 : -2147483648≤x9∧x9≤2147483647) (b10 : -2147483648≤x10∧x10≤2147483647) (b11 : -2147483648≤x11∧x11≤2147483647) (b12 : -2147483648≤x12∧x12≤2147483647) (b13 : -2147483648≤x13∧x13≤2147483647) (b14 : -2147483648≤x14∧x14≤2147483647) (b15 : -2147483648≤x15∧x15≤2147483647) (b16 : -2147483648≤x16∧x16≤2147483647) (b17 : -2147483648≤x17∧x17≤2147483647):eC Try.prog G GB 16 uE (eH ([x0,x1,x2,x3,x4,x5,x6,x7,x8,x9,x10,x11,x12,x13,x14,x15,x16,x17]:List Int)):=by
 refine cS (lp:=dE) (run:=uP Try.prog) (fun _=>rfl) fits (dC ⟨b0,b1,b2,b3,b4,b5,b6,b7,b8,b9,b10,b11,b12,b13,b14,b15,b16,b17,trivial⟩) eL (fun X hX hG=>bQ hX hG) (fun X hX hG fn c hf hc=>cH) rfl ?_
 refine aM aEy ?_
 exact⟨rfl,trivial⟩
def zX:Ctx→List SV→aG→Res (SV × aG):=dH GB pR 0 (.lit true) uE
theorem aFg {X:Ctx} {ρ:Nat→Int} (hX:X.Ok ρ) (hG:X.G=G):eY Try.prog X ρ GB 16 zX:=by
 obtain⟨XG,XI,XV,XF⟩:=X
 simp only at hG
 subst hG
 refine cL hX ?_
 intro xs ls hw hl _
 have hl':ls=[]:=List.length_eq_zero_iff.1 hl
 subst hl'
 rw[List.append_nil]
 unfold pR at hw
 obtain⟨x0,y0,e0,b0,h0⟩:=aL hw
 obtain⟨x1,y1,e1,b1,h1⟩:=aL h0
 obtain⟨x2,y2,e2,b2,h2⟩:=aL h1
 obtain⟨x3,y3,e3,b3,h3⟩:=aL h2
 obtain⟨x4,y4,e4,b4,h4⟩:=aL h3
 obtain⟨x5,y5,e5,b5,h5⟩:=aL h4
 obtain⟨x6,y6,e6,b6,h6⟩:=aL h5
 obtain⟨x7,y7,e7,b7,h7⟩:=aL h6
 obtain⟨x8,y8,e8,b8,h8⟩:=aL h7
 obtain⟨x9,y9,e9,b9,h9⟩:=aL h8
 obtain⟨x10,y10,e10,b10,h10⟩:=aL h9
 obtain⟨x11,y11,e11,b11,h11⟩:=aL h10
 obtain⟨x12,y12,e12,b12,h12⟩:=aL h11
 obtain⟨x13,y13,e13,b13,h13⟩:=aL h12
 obtain⟨x14,y14,e14,b14,h14⟩:=aL h13
 obtain⟨x15,y15,e15,b15,h15⟩:=aL h14
 obtain⟨x16,y16,e16,b16,h16⟩:=aL h15
 obtain⟨x17,y17,e17,b17,h17⟩:=aL h16
 have e18:=oA h17
 subst e18 e17 e16 e15 e14 e13 e12 e11 e10 e9 e8 e7 e6 e5 e4 e3 e2 e1 e0
 exact aB4 x0 x1 x2 x3 x4 x5 x6 x7 x8 x9 x10 x11 x12 x13 x14 x15 x16 x17 b0 b1 b2 b3 b4 b5 b6 b7 b8 b9 b10 b11 b12 b13 b14 b15 b16 b17
def aAC:aY:=iW 16 (tA vP (tA aAP (tA aBb (tA aAp (tA aAL zX))))) cW
theorem aAD {X:Ctx} {ρ:Nat→Int} (hX:X.Ok ρ) (hG:X.G=G):gP Try.prog X ρ GB aAC:=fZ (lV (aJb hX hG) (lV (aEs hX hG) (lV (aEt hX hG) (lV (aFs hX hG) (lV (aEE hX hG) (aFg hX hG)))))) (bQ hX hG)
def zN:FunS:=⟨[],bX GB,.lit true,(.bool (.lit true)),bX GB,(.bool (.lit true)),bX GB⟩
def wW (P:Program) (fs:List B):Res SV:=bU G GI [] fs fun X=>fH P X GB aAC dE 4000 11 zN
end Go.Proofs.Ythiehfhphgkaeaa
set_option maxRecDepth 100000
namespace Go.Proofs.Ythiehfhphgkaeaa
open Go Go.RowKit Sx Wi
def aJL (P:Program) (fs:List B):Res SV:=wW P fs
def aGY:List B:=[]
def aHA:B:=(.cmp .ne (.app 83 (.cons (.app 91 (.cons (.app 91 (.cons (.app 91 (.cons (.lit 0) (.cons (.app 2 (.cons (.lit 0) (.cons (.lit 256) .nil))) (.cons (.app 2 (.cons (.lit 0) (.cons (.lit 256) .nil))) .nil)))) (.cons (.app 2 (.cons (.lit 65536) (.cons (.lit 256) .nil))) (.cons (.app 2 (.cons (.lit 0) (.cons (.lit 256) .nil))) .nil)))) (.cons (.app 2 (.cons (.lit 65536) (.cons (.lit 256) .nil))) (.cons (.app 2 (.cons (.lit 65536) (.cons (.lit 256) .nil))) .nil)))) (.cons (.lit 0) (.cons (.lit 0) .nil)))) (.lit 0))
def aG6:List B:=aU (B.neg aHA)++aGY
def aHX:B:=(.cmp .ne (.app 83 (.cons (.app 91 (.cons (.app 91 (.cons (.app 91 (.cons (.lit 0) (.cons (.app 2 (.cons (.lit 0) (.cons (.lit 256) .nil))) (.cons (.app 2 (.cons (.lit 0) (.cons (.lit 256) .nil))) .nil)))) (.cons (.app 2 (.cons (.lit 65536) (.cons (.lit 256) .nil))) (.cons (.app 2 (.cons (.lit 0) (.cons (.lit 256) .nil))) .nil)))) (.cons (.app 2 (.cons (.lit 65536) (.cons (.lit 256) .nil))) (.cons (.app 2 (.cons (.lit 65536) (.cons (.lit 256) .nil))) .nil)))) (.cons (.lit 0) (.cons (.lit 1) .nil)))) (.lit 0))
def aGO:List B:=aU (B.neg aHX)++aG6
def aIi:B:=(.cmp .ne (.app 83 (.cons (.app 91 (.cons (.app 91 (.cons (.app 91 (.cons (.lit 0) (.cons (.app 2 (.cons (.lit 0) (.cons (.lit 256) .nil))) (.cons (.app 2 (.cons (.lit 0) (.cons (.lit 256) .nil))) .nil)))) (.cons (.app 2 (.cons (.lit 65536) (.cons (.lit 256) .nil))) (.cons (.app 2 (.cons (.lit 0) (.cons (.lit 256) .nil))) .nil)))) (.cons (.app 2 (.cons (.lit 65536) (.cons (.lit 256) .nil))) (.cons (.app 2 (.cons (.lit 65536) (.cons (.lit 256) .nil))) .nil)))) (.cons (.lit 1) (.cons (.lit 0) .nil)))) (.lit 256))
def aIt:List B:=aU (B.neg aIi)++aGO
def aHn:B:=(.cmp .ne (.app 83 (.cons (.app 91 (.cons (.app 91 (.cons (.app 91 (.cons (.lit 0) (.cons (.app 2 (.cons (.lit 0) (.cons (.lit 256) .nil))) (.cons (.app 2 (.cons (.lit 0) (.cons (.lit 256) .nil))) .nil)))) (.cons (.app 2 (.cons (.lit 65536) (.cons (.lit 256) .nil))) (.cons (.app 2 (.cons (.lit 0) (.cons (.lit 256) .nil))) .nil)))) (.cons (.app 2 (.cons (.lit 65536) (.cons (.lit 256) .nil))) (.cons (.app 2 (.cons (.lit 65536) (.cons (.lit 256) .nil))) .nil)))) (.cons (.lit 1) (.cons (.lit 1) .nil)))) (.lit 0))
def aIN:List B:=aU (B.neg aHn)++aIt
def aHU:B:=(.cmp .ne (.app 83 (.cons (.app 91 (.cons (.app 91 (.cons (.app 91 (.cons (.lit 0) (.cons (.app 2 (.cons (.lit 0) (.cons (.lit 256) .nil))) (.cons (.app 2 (.cons (.lit 0) (.cons (.lit 256) .nil))) .nil)))) (.cons (.app 2 (.cons (.lit 65536) (.cons (.lit 256) .nil))) (.cons (.app 2 (.cons (.lit 0) (.cons (.lit 256) .nil))) .nil)))) (.cons (.app 2 (.cons (.lit 65536) (.cons (.lit 256) .nil))) (.cons (.app 2 (.cons (.lit 65536) (.cons (.lit 256) .nil))) .nil)))) (.cons (.lit 2) (.cons (.lit 0) .nil)))) (.lit 256))
def aFf:List B:=aU (B.neg aHU)++aIN
def aEk:B:=(.cmp .ne (.app 83 (.cons (.app 91 (.cons (.app 91 (.cons (.app 91 (.cons (.lit 0) (.cons (.app 2 (.cons (.lit 0) (.cons (.lit 256) .nil))) (.cons (.app 2 (.cons (.lit 0) (.cons (.lit 256) .nil))) .nil)))) (.cons (.app 2 (.cons (.lit 65536) (.cons (.lit 256) .nil))) (.cons (.app 2 (.cons (.lit 0) (.cons (.lit 256) .nil))) .nil)))) (.cons (.app 2 (.cons (.lit 65536) (.cons (.lit 256) .nil))) (.cons (.app 2 (.cons (.lit 65536) (.cons (.lit 256) .nil))) .nil)))) (.cons (.lit 2) (.cons (.lit 1) .nil)))) (.lit 256))
def aD6:List B:=aU (B.neg aEk)++aFf
def aEL:B:=(.cmp .ne (.app 83 (.cons (.app 44 (.cons (.lit 0) (.cons (.lit 0) (.cons (.lit 0) (.cons (.lit 65536) (.cons (.lit 65536) (.cons (.lit 65536) (.cons (.lit 65536) (.cons (.lit 0) .nil))))))))) (.cons (.lit 0) (.cons (.lit 0) .nil)))) (.lit 0))
def aDK:List B:=aU (B.neg aEL)++aD6
def aDQ:B:=(.cmp .ne (.app 83 (.cons (.app 44 (.cons (.lit 0) (.cons (.lit 0) (.cons (.lit 0) (.cons (.lit 65536) (.cons (.lit 65536) (.cons (.lit 65536) (.cons (.lit 65536) (.cons (.lit 0) .nil))))))))) (.cons (.lit 0) (.cons (.lit 1) .nil)))) (.lit 0))
def aEY:List B:=aU (B.neg aDQ)++aDK
def aFv:B:=(.cmp .ne (.app 83 (.cons (.app 44 (.cons (.lit 0) (.cons (.lit 0) (.cons (.lit 0) (.cons (.lit 65536) (.cons (.lit 65536) (.cons (.lit 65536) (.cons (.lit 65536) (.cons (.lit 0) .nil))))))))) (.cons (.lit 1) (.cons (.lit 0) .nil)))) (.lit 40))
def aFz:List B:=aU (B.neg aFv)++aEY
def aEI:B:=(.cmp .ne (.app 83 (.cons (.app 44 (.cons (.lit 0) (.cons (.lit 0) (.cons (.lit 0) (.cons (.lit 65536) (.cons (.lit 65536) (.cons (.lit 65536) (.cons (.lit 65536) (.cons (.lit 0) .nil))))))))) (.cons (.lit 1) (.cons (.lit 1) .nil)))) (.lit 144))
def aDX:List B:=aU (B.neg aEI)++aFz
def aFR:B:=(.cmp .ne (.app 83 (.cons (.app 44 (.cons (.lit 0) (.cons (.lit 0) (.cons (.lit 0) (.cons (.lit 65536) (.cons (.lit 65536) (.cons (.lit 65536) (.cons (.lit 65536) (.cons (.lit 0) .nil))))))))) (.cons (.lit 2) (.cons (.lit 0) .nil)))) (.lit 128))
def aFl:List B:=aU (B.neg aFR)++aDX
def aDT:B:=(.cmp .ne (.app 83 (.cons (.app 44 (.cons (.lit 0) (.cons (.lit 0) (.cons (.lit 0) (.cons (.lit 65536) (.cons (.lit 65536) (.cons (.lit 65536) (.cons (.lit 65536) (.cons (.lit 0) .nil))))))))) (.cons (.lit 2) (.cons (.lit 1) .nil)))) (.lit 192))
def aDO:List B:=aU (B.neg aDT)++aFl
def aDI:B:=(.cmp .ne (.app 83 (.cons (.app 44 (.cons (.lit 0) (.cons (.lit 0) (.cons (.lit 0) (.cons (.lit 65536) (.cons (.lit 65536) (.cons (.lit 65536) (.cons (.lit 65536) (.cons (.lit 0) .nil))))))))) (.cons (.lit 3) (.cons (.lit 0) .nil)))) (.lit 216))
def aF2:List B:=aU (B.neg aDI)++aDO
def aEz:B:=(.cmp .ne (.app 83 (.cons (.app 44 (.cons (.lit 0) (.cons (.lit 0) (.cons (.lit 0) (.cons (.lit 65536) (.cons (.lit 65536) (.cons (.lit 65536) (.cons (.lit 65536) (.cons (.lit 0) .nil))))))))) (.cons (.lit 3) (.cons (.lit 1) .nil)))) (.lit 144))
def aEh:List B:=aU (B.neg aEz)++aF2
def aFi:B:=(.cmp .ne (.app 83 (.cons (.app 44 (.cons (.lit 0) (.cons (.lit 0) (.cons (.lit 0) (.cons (.lit 65536) (.cons (.lit 65536) (.cons (.lit 65536) (.cons (.lit 65536) (.cons (.lit 0) .nil))))))))) (.cons (.lit 4) (.cons (.lit 0) .nil)))) (.lit 256))
def aFu:List B:=aU (B.neg aFi)++aEh
def aFq:B:=(.cmp .ne (.app 83 (.cons (.app 44 (.cons (.lit 0) (.cons (.lit 0) (.cons (.lit 0) (.cons (.lit 65536) (.cons (.lit 65536) (.cons (.lit 65536) (.cons (.lit 65536) (.cons (.lit 0) .nil))))))))) (.cons (.lit 4) (.cons (.lit 1) .nil)))) (.lit 0))
def aFB:List B:=aU (B.neg aFq)++aFu
theorem aFn:aJL Try.prog aFB = .ok (.tuple [(.agg []),(.bool (.lit true))]):=by kernel_rfl
end Go.Proofs.Ythiehfhphgkaeaa
namespace Go.Proofs.Ythiehfhphgkaeaa
open Go Go.RowKit Sx Wi
theorem aJj (a m:Int) (hm:0<m) (n:Int) (hn:n=m*m*m*a):Fx.near n (m*(m*m)*256)=Fx.near a 256:=by
 have e:=Fx.near_mul a 256 (m*m*m) (Int.mul_pos (Int.mul_pos hm hm) hm)
 rw[←e,hn]
 congr 1<;>grind
theorem aHM (a b c d m:Int) (hm:0<m):aKF a b c d 0 m=Fx.near a 256:=aJj a m hm _ (by grind)
theorem wS (xs:List Int) (m:Int) (hm:0<m):∀ n a:Nat,a≤n→(fY xs m n).getD a []=pE xs m a
 |0,a,h=>by
  have:a=0:=by omega
  subst this
  show [Fx.near (xs.getD 0 0) (1*256),Fx.near (xs.getD 1 0) (1*256)]=pE xs m ((0:Nat):Int)
  unfold pE
  rw[Int.natCast_zero,aHM _ _ _ _ _ hm,aHM _ _ _ _ _ hm]
  rfl
 |n+1,a,h=>by
  have hl:=eO xs m n
  show (fY xs m n++[pE xs m ((n:Int)+1)]).getD a []=_
  rw[List.getD_eq_getElem?_getD]
  by_cases ha:a≤n
  ·rw[List.getElem?_append_left (by omega),←List.getD_eq_getElem?_getD]
   exact wS xs m hm n a ha
  ·have:a=n+1:=by omega
   subst this
   rw[List.getElem?_append_right (by omega),hl]
   simp
theorem aDd (k:IntKind):Lc.kNo k<8:=by cases k<;>decide
theorem aLc (k:IntKind) {xs:List Int} {i j:Int} (h0:0≤i) (h1:i≤cG xs):G (80+Lc.kNo k) [G 44 xs,i,j]=k.wrap ((pE xs (cG xs) i).getD j.toNat 0):=by
 have hp:=fP xs
 have e1:G 44 xs=Lc.enc (fY xs (cG xs) (cG xs).toNat):=rfl
 have h8:=aDd k
 rw[e1,lW _ _ (by omega) (by omega),Lc.fn_rd]
 unfold Lc.rd Lc.row
 rw[Lc.dec_enc,wS _ _ (by omega) _ _ (by omega),Int.toNat_of_nonneg h0]
theorem aKB (k:IntKind) (L:List (List Int)) (i j:Int):G (80+Lc.kNo k) [Lc.enc L,i,j]=k.wrap ((L.getD i.toNat []).getD j.toNat 0):=by
 have h8:=aDd k
 rw[lW _ _ (by omega) (by omega),Lc.fn_rd]
 unfold Lc.rd Lc.row
 rw[Lc.dec_enc]
theorem aLQ (a b:Int):G 91 [0,a,b]=Lc.enc [[a,b]]:=jL lW [] [a,b]
theorem aLI (a b c d:Int):G 91 [G 91 [0,a,b],c,d]=Lc.enc [[a,b],[c,d]]:=by
 rw[aLQ];exact jL lW [[a,b]] [c,d]
theorem aLx (a b c d e f:Int):G 91 [G 91 [G 91 [0,a,b],c,d],e,f]=Lc.enc [[a,b],[c,d],[e,f]]:=by
 rw[aLI];exact jL lW [[a,b],[c,d]] [e,f]
theorem mP (i j v:Int) (h:IntKind.i64.wrap (([[G 2 [0,256],G 2 [0,256]],[G 2 [65536,256],G 2 [0,256]],[G 2 [65536,256],G 2 [65536,256]]].getD i.toNat []).getD j.toNat 0)=v):
  G 83 [G 91 [G 91 [G 91 [0,G 2 [0,256],G 2 [0,256]],G 2 [65536,256],G 2 [0,256]],G 2 [65536,256],G 2 [65536,256]],i,j]=v:=by
 rw[aLx];exact(aKB .i64 _ i j).trans h
theorem gK (i j v:Int) (h0:0≤i) (h1:i≤cG [0,0,0,65536,65536,65536,65536,0]) (h:IntKind.i64.wrap ((pE [0,0,0,65536,65536,65536,65536,0] (cG [0,0,0,65536,65536,65536,65536,0]) i).getD j.toNat 0)=v):
  G 83 [G 44 [0,0,0,65536,65536,65536,65536,0],i,j]=v:=(aLc .i64 h0 h1).trans h
theorem aEX:eC Try.prog G GB 11 zN (eH []):=by
 refine cS (lp:=dE) (run:=wW Try.prog) (fun _=>rfl) fits (dC trivial) eL (fun X hX hG=>aAD hX hG) (fun X hX hG fn c hf hc=>cH) rfl ?_
 refine aR (.cmp .ne (.app 83 (.cons (.app 91 (.cons (.app 91 (.cons (.app 91 (.cons (.lit 0) (.cons (.app 2 (.cons (.lit 0) (.cons (.lit 256) .nil))) (.cons (.app 2 (.cons (.lit 0) (.cons (.lit 256) .nil))) .nil)))) (.cons (.app 2 (.cons (.lit 65536) (.cons (.lit 256) .nil))) (.cons (.app 2 (.cons (.lit 0) (.cons (.lit 256) .nil))) .nil)))) (.cons (.app 2 (.cons (.lit 65536) (.cons (.lit 256) .nil))) (.cons (.app 2 (.cons (.lit 65536) (.cons (.lit 256) .nil))) .nil)))) (.cons (.lit 0) (.cons (.lit 0) .nil)))) (.lit 0)) (fun h0=>?_) (fun h0=>?_)
 ·skip
  refine bS ?_
  exfalso;simp only[nn,List.cons_append,List.nil_append,aZ]at h0;with_reducible exact absurd (mP 0 0 0 (by decide)) h0
 refine aR (.cmp .ne (.app 83 (.cons (.app 91 (.cons (.app 91 (.cons (.app 91 (.cons (.lit 0) (.cons (.app 2 (.cons (.lit 0) (.cons (.lit 256) .nil))) (.cons (.app 2 (.cons (.lit 0) (.cons (.lit 256) .nil))) .nil)))) (.cons (.app 2 (.cons (.lit 65536) (.cons (.lit 256) .nil))) (.cons (.app 2 (.cons (.lit 0) (.cons (.lit 256) .nil))) .nil)))) (.cons (.app 2 (.cons (.lit 65536) (.cons (.lit 256) .nil))) (.cons (.app 2 (.cons (.lit 65536) (.cons (.lit 256) .nil))) .nil)))) (.cons (.lit 0) (.cons (.lit 1) .nil)))) (.lit 0)) (fun h1=>?_) (fun h1=>?_)
 ·skip
  refine bS ?_
  exfalso;clear h0;simp only[nn,List.cons_append,List.nil_append,aZ]at h1;with_reducible exact absurd (mP 0 1 0 (by decide)) h1
 refine aR (.cmp .ne (.app 83 (.cons (.app 91 (.cons (.app 91 (.cons (.app 91 (.cons (.lit 0) (.cons (.app 2 (.cons (.lit 0) (.cons (.lit 256) .nil))) (.cons (.app 2 (.cons (.lit 0) (.cons (.lit 256) .nil))) .nil)))) (.cons (.app 2 (.cons (.lit 65536) (.cons (.lit 256) .nil))) (.cons (.app 2 (.cons (.lit 0) (.cons (.lit 256) .nil))) .nil)))) (.cons (.app 2 (.cons (.lit 65536) (.cons (.lit 256) .nil))) (.cons (.app 2 (.cons (.lit 65536) (.cons (.lit 256) .nil))) .nil)))) (.cons (.lit 1) (.cons (.lit 0) .nil)))) (.lit 256)) (fun h2=>?_) (fun h2=>?_)
 ·skip
  refine bS ?_
  exfalso;clear h0 h1;simp only[nn,List.cons_append,List.nil_append,aZ]at h2;with_reducible exact absurd (mP 1 0 256 (by decide)) h2
 refine aR (.cmp .ne (.app 83 (.cons (.app 91 (.cons (.app 91 (.cons (.app 91 (.cons (.lit 0) (.cons (.app 2 (.cons (.lit 0) (.cons (.lit 256) .nil))) (.cons (.app 2 (.cons (.lit 0) (.cons (.lit 256) .nil))) .nil)))) (.cons (.app 2 (.cons (.lit 65536) (.cons (.lit 256) .nil))) (.cons (.app 2 (.cons (.lit 0) (.cons (.lit 256) .nil))) .nil)))) (.cons (.app 2 (.cons (.lit 65536) (.cons (.lit 256) .nil))) (.cons (.app 2 (.cons (.lit 65536) (.cons (.lit 256) .nil))) .nil)))) (.cons (.lit 1) (.cons (.lit 1) .nil)))) (.lit 0)) (fun h3=>?_) (fun h3=>?_)
 ·skip
  refine bS ?_
  exfalso;clear h0 h1 h2;simp only[nn,List.cons_append,List.nil_append,aZ]at h3;with_reducible exact absurd (mP 1 1 0 (by decide)) h3
 refine aR (.cmp .ne (.app 83 (.cons (.app 91 (.cons (.app 91 (.cons (.app 91 (.cons (.lit 0) (.cons (.app 2 (.cons (.lit 0) (.cons (.lit 256) .nil))) (.cons (.app 2 (.cons (.lit 0) (.cons (.lit 256) .nil))) .nil)))) (.cons (.app 2 (.cons (.lit 65536) (.cons (.lit 256) .nil))) (.cons (.app 2 (.cons (.lit 0) (.cons (.lit 256) .nil))) .nil)))) (.cons (.app 2 (.cons (.lit 65536) (.cons (.lit 256) .nil))) (.cons (.app 2 (.cons (.lit 65536) (.cons (.lit 256) .nil))) .nil)))) (.cons (.lit 2) (.cons (.lit 0) .nil)))) (.lit 256)) (fun h4=>?_) (fun h4=>?_)
 ·skip
  refine bS ?_
  exfalso;clear h0 h1 h2 h3;simp only[nn,List.cons_append,List.nil_append,aZ]at h4;with_reducible exact absurd (mP 2 0 256 (by decide)) h4
 refine aR (.cmp .ne (.app 83 (.cons (.app 91 (.cons (.app 91 (.cons (.app 91 (.cons (.lit 0) (.cons (.app 2 (.cons (.lit 0) (.cons (.lit 256) .nil))) (.cons (.app 2 (.cons (.lit 0) (.cons (.lit 256) .nil))) .nil)))) (.cons (.app 2 (.cons (.lit 65536) (.cons (.lit 256) .nil))) (.cons (.app 2 (.cons (.lit 0) (.cons (.lit 256) .nil))) .nil)))) (.cons (.app 2 (.cons (.lit 65536) (.cons (.lit 256) .nil))) (.cons (.app 2 (.cons (.lit 65536) (.cons (.lit 256) .nil))) .nil)))) (.cons (.lit 2) (.cons (.lit 1) .nil)))) (.lit 256)) (fun h5=>?_) (fun h5=>?_)
 ·skip
  refine bS ?_
  exfalso;clear h0 h1 h2 h3 h4;simp only[nn,List.cons_append,List.nil_append,aZ]at h5;with_reducible exact absurd (mP 2 1 256 (by decide)) h5
 refine aR (.cmp .ne (.app 83 (.cons (.app 44 (.cons (.lit 0) (.cons (.lit 0) (.cons (.lit 0) (.cons (.lit 65536) (.cons (.lit 65536) (.cons (.lit 65536) (.cons (.lit 65536) (.cons (.lit 0) .nil))))))))) (.cons (.lit 0) (.cons (.lit 0) .nil)))) (.lit 0)) (fun h6=>?_) (fun h6=>?_)
 ·skip
  refine bS ?_
  exfalso;clear h0 h1 h2 h3 h4 h5;simp only[nn,List.cons_append,List.nil_append,aZ]at h6;with_reducible exact absurd (gK 0 0 0 (by decide) (by decide) (by decide)) h6
 refine aR (.cmp .ne (.app 83 (.cons (.app 44 (.cons (.lit 0) (.cons (.lit 0) (.cons (.lit 0) (.cons (.lit 65536) (.cons (.lit 65536) (.cons (.lit 65536) (.cons (.lit 65536) (.cons (.lit 0) .nil))))))))) (.cons (.lit 0) (.cons (.lit 1) .nil)))) (.lit 0)) (fun h7=>?_) (fun h7=>?_)
 ·skip
  refine bS ?_
  exfalso;clear h0 h1 h2 h3 h4 h5 h6;simp only[nn,List.cons_append,List.nil_append,aZ]at h7;with_reducible exact absurd (gK 0 1 0 (by decide) (by decide) (by decide)) h7
 refine aR (.cmp .ne (.app 83 (.cons (.app 44 (.cons (.lit 0) (.cons (.lit 0) (.cons (.lit 0) (.cons (.lit 65536) (.cons (.lit 65536) (.cons (.lit 65536) (.cons (.lit 65536) (.cons (.lit 0) .nil))))))))) (.cons (.lit 1) (.cons (.lit 0) .nil)))) (.lit 40)) (fun h8=>?_) (fun h8=>?_)
 ·skip
  refine bS ?_
  exfalso;clear h0 h1 h2 h3 h4 h5 h6 h7;simp only[nn,List.cons_append,List.nil_append,aZ]at h8;with_reducible exact absurd (gK 1 0 40 (by decide) (by decide) (by decide)) h8
 refine aR (.cmp .ne (.app 83 (.cons (.app 44 (.cons (.lit 0) (.cons (.lit 0) (.cons (.lit 0) (.cons (.lit 65536) (.cons (.lit 65536) (.cons (.lit 65536) (.cons (.lit 65536) (.cons (.lit 0) .nil))))))))) (.cons (.lit 1) (.cons (.lit 1) .nil)))) (.lit 144)) (fun h9=>?_) (fun h9=>?_)
 ·skip
  refine bS ?_
  exfalso;clear h0 h1 h2 h3 h4 h5 h6 h7 h8;simp only[nn,List.cons_append,List.nil_append,aZ]at h9;with_reducible exact absurd (gK 1 1 144 (by decide) (by decide) (by decide)) h9
 refine aR (.cmp .ne (.app 83 (.cons (.app 44 (.cons (.lit 0) (.cons (.lit 0) (.cons (.lit 0) (.cons (.lit 65536) (.cons (.lit 65536) (.cons (.lit 65536) (.cons (.lit 65536) (.cons (.lit 0) .nil))))))))) (.cons (.lit 2) (.cons (.lit 0) .nil)))) (.lit 128)) (fun h10=>?_) (fun h10=>?_)
 ·skip
  refine bS ?_
  exfalso;clear h0 h1 h2 h3 h4 h5 h6 h7 h8 h9;simp only[nn,List.cons_append,List.nil_append,aZ]at h10;with_reducible exact absurd (gK 2 0 128 (by decide) (by decide) (by decide)) h10
 refine aR (.cmp .ne (.app 83 (.cons (.app 44 (.cons (.lit 0) (.cons (.lit 0) (.cons (.lit 0) (.cons (.lit 65536) (.cons (.lit 65536) (.cons (.lit 65536) (.cons (.lit 65536) (.cons (.lit 0) .nil))))))))) (.cons (.lit 2) (.cons (.lit 1) .nil)))) (.lit 192)) (fun h11=>?_) (fun h11=>?_)
 ·skip
  refine bS ?_
  exfalso;clear h0 h1 h2 h3 h4 h5 h6 h7 h8 h9 h10;simp only[nn,List.cons_append,List.nil_append,aZ]at h11;with_reducible exact absurd (gK 2 1 192 (by decide) (by decide) (by decide)) h11
 refine aR (.cmp .ne (.app 83 (.cons (.app 44 (.cons (.lit 0) (.cons (.lit 0) (.cons (.lit 0) (.cons (.lit 65536) (.cons (.lit 65536) (.cons (.lit 65536) (.cons (.lit 65536) (.cons (.lit 0) .nil))))))))) (.cons (.lit 3) (.cons (.lit 0) .nil)))) (.lit 216)) (fun h12=>?_) (fun h12=>?_)
 ·skip
  refine bS ?_
  exfalso;clear h0 h1 h2 h3 h4 h5 h6 h7 h8 h9 h10 h11;simp only[nn,List.cons_append,List.nil_append,aZ]at h12;with_reducible exact absurd (gK 3 0 216 (by decide) (by decide) (by decide)) h12
 refine aR (.cmp .ne (.app 83 (.cons (.app 44 (.cons (.lit 0) (.cons (.lit 0) (.cons (.lit 0) (.cons (.lit 65536) (.cons (.lit 65536) (.cons (.lit 65536) (.cons (.lit 65536) (.cons (.lit 0) .nil))))))))) (.cons (.lit 3) (.cons (.lit 1) .nil)))) (.lit 144)) (fun h13=>?_) (fun h13=>?_)
 ·skip
  refine bS ?_
  exfalso;clear h0 h1 h2 h3 h4 h5 h6 h7 h8 h9 h10 h11 h12;simp only[nn,List.cons_append,List.nil_append,aZ]at h13;with_reducible exact absurd (gK 3 1 144 (by decide) (by decide) (by decide)) h13
 refine aR (.cmp .ne (.app 83 (.cons (.app 44 (.cons (.lit 0) (.cons (.lit 0) (.cons (.lit 0) (.cons (.lit 65536) (.cons (.lit 65536) (.cons (.lit 65536) (.cons (.lit 65536) (.cons (.lit 0) .nil))))))))) (.cons (.lit 4) (.cons (.lit 0) .nil)))) (.lit 256)) (fun h14=>?_) (fun h14=>?_)
 ·skip
  refine bS ?_
  exfalso;clear h0 h1 h2 h3 h4 h5 h6 h7 h8 h9 h10 h11 h12 h13;simp only[nn,List.cons_append,List.nil_append,aZ]at h14;with_reducible exact absurd (gK 4 0 256 (by decide) (by decide) (by decide)) h14
 refine aR (.cmp .ne (.app 83 (.cons (.app 44 (.cons (.lit 0) (.cons (.lit 0) (.cons (.lit 0) (.cons (.lit 65536) (.cons (.lit 65536) (.cons (.lit 65536) (.cons (.lit 65536) (.cons (.lit 0) .nil))))))))) (.cons (.lit 4) (.cons (.lit 1) .nil)))) (.lit 0)) (fun h15=>?_) (fun h15=>?_)
 ·skip
  refine bS ?_
  exfalso;clear h0 h1 h2 h3 h4 h5 h6 h7 h8 h9 h10 h11 h12 h13 h14;simp only[nn,List.cons_append,List.nil_append,aZ]at h15;with_reducible exact absurd (gK 4 1 0 (by decide) (by decide) (by decide)) h15
 refine aM aFn ?_
 exact⟨rfl,trivial⟩
def sB:Ctx→List SV→aG→Res (SV × aG):=dH GB [] 0 (.lit true) zN
theorem aHW {X:Ctx} {ρ:Nat→Int} (hX:X.Ok ρ) (hG:X.G=G):eY Try.prog X ρ GB 11 sB:=by
 obtain⟨XG,XI,XV,XF⟩:=X
 simp only at hG
 subst hG
 refine cL hX ?_
 intro xs ls hw hl _
 have hl':ls=[]:=List.length_eq_zero_iff.1 hl
 subst hl'
 rw[List.append_nil]
 have e8:=oA hw
 subst e8
 exact aEX
end Go.Proofs.Ythiehfhphgkaeaa
namespace Go.Proofs.Ythiehfhphgkaeaa
open Go Go.RowKit Sx
def nI (go:TypeId→Option (List CK)) (P:Program):List Field→Nat→Option (List CK)
 |[],_=>some []
 |f::fs,o=>if f.offset=o then match go f.type with
   |some a=>if a.length=P.cellsOf f.type then match nI go P fs (o+a.length)with
     |some b=>some (a++b)
     |none=>none
    else none
   |none=>none
  else none
def lD (P:Program):Nat→TypeId→Option (List CK)
 |0,_=>none
 |d+1,t=>match P.underlying t with
  |some .bool=>some [.bool]
  |some (.int k)=>some [.int k]
  |some (.struct fs)=>match nI (lD P d) P fs.toList 0 with
   |some a=>if a.length=P.cellsOf t then some a else none
   |none=>none
  |some (.array n e)=>match lD P d e with
   |some a=>if a.length=P.cellsOf e∧n*a.length=P.cellsOf t then some (List.replicate n a).flatten else none
   |none=>none
  |_=>none
theorem xI {go:TypeId→Option (List CK)} {P:Program}:∀ {fs:List Field} {o:Nat} {ks:List CK},nI go P fs o=some ks→∀ (i:Nat) (g:Field),fs[i]?=some g→o≤g.offset
 |[],o,ks,h,i,g,e=>by simp at e
 |f::fs,o,ks,h,i,g,e=>by
  unfold nI at h
  split at h
  case isFalse=>cases h
  rename_i ho
  split at h
  case h_2=>cases h
  split at h
  case isFalse=>cases h
  split at h
  case h_2=>cases h
  rename_i b hb
  cases i with
  |zero=>simp only[List.getElem?_cons_zero,Option.some.injEq]at e;subst e;omega
  |succ i=>have:=xI hb i g (by simpa using e);omega
def pK:CK→Int→Prop
 | .int k,n=>k.min≤n∧n≤k.max
 | .bool,n=>n=0∨n=1
def Kin (ks:List CK) (cs:List Value):Prop:=cs.length=ks.length∧∀ (i:Nat) (k:CK),ks[i]?=some k→∃ n,cs[i]?=some (k.mk n)∧pK k n
theorem Kin.append {a b:List CK} {xs ys:List Value} (h:Kin a xs) (g:Kin b ys):Kin (a++b) (xs++ys):=by
 refine⟨by rw[List.length_append,List.length_append,h.1,g.1],fun i k e=>?_⟩
 rcases Nat.lt_or_ge i a.length with q|q
 ·rw[List.getElem?_append_left q]at e
  rw[List.getElem?_append_left (by rw[h.1];exact q)]
  exact h.2 i k e
 ·rw[List.getElem?_append_right q]at e
  rw[List.getElem?_append_right (by rw[h.1];exact q),h.1]
  exact g.2 _ k e
theorem Kin.row {ks:List CK} {cs:List Value} (h:Kin ks cs):∃ r:List Int,r.length=ks.length∧cs=dG ks r∧∀ (i:Nat) (k:CK),ks[i]?=some k→pK k (r.getD i 0):=by
 classical
 obtain⟨f,hf⟩:∃ f:Nat→Int,∀ (i:Nat) (k:CK),ks[i]?=some k→cs[i]?=some (k.mk (f i))∧pK k (f i):=by
  refine⟨fun i=>if q:∃ n,∀ k,ks[i]?=some k→cs[i]?=some (k.mk n)∧pK k n then q.choose else 0,fun i k e=>?_⟩
  have q:∃ n,∀ k,ks[i]?=some k→cs[i]?=some (k.mk n)∧pK k n:=by
   obtain⟨n,h1,h2⟩:=h.2 i k e
   refine⟨n,fun k' e'=>?_⟩
   rw[e]at e';cases e'
   exact⟨h1,h2⟩
  simp only[dif_pos q]
  exact q.choose_spec k e
 have hg:∀ i,i<ks.length→((List.range ks.length).map f).getD i 0=f i:=fun i hi=>by simp [List.getD,hi]
 refine⟨(List.range ks.length).map f,by simp,?_,fun i k e=>?_⟩
 ·apply List.ext_getElem?
  intro i
  unfold dG
  rw[List.getElem?_map,List.getElem?_zipIdx]
  cases e:ks[i]? with
  |none=>
   have:=List.getElem?_eq_none_iff.1 e
   rw[List.getElem?_eq_none (show cs.length≤i by rw[h.1];exact this)];rfl
  |some k=>
   rw[(hf i k e).1]
   simp only[Option.map_some,Nat.zero_add]
   rw[hg i (List.getElem?_eq_some_iff.1 e).1]
 ·rw[hg i (List.getElem?_eq_some_iff.1 e).1];exact(hf i k e).2
theorem aH0 {k:IntKind} {n:Int} (h:(Lit.int k n).wf=true):CK.mk (.int k) n = .int k n∧pK (.int k) n:=by
 simp only[Lit.wf,Bool.and_eq_true,decide_eq_true_eq]at h
 refine⟨?_,h⟩
 show Value.int k (k.wrap n)=_
 rw[yL k n h.1 h.2]
section
variable {H:Type} {enc:TypeId × Value→H} {P:Program} {w:World} {base:Nat} {spare:Nat→Bool} {held:Bool}
theorem xE {go:TypeId→Option (List CK)} {fuel:Nat} (hgo:∀ t ks cs x,go t=some ks→DataW.trod enc P w base spare held fuel t cs=some x→Kin ks cs):∀ (fs:List Field) (o:Nat) (ks:List CK) (cs:List Value),nI go P fs o=some ks→
  (∀ (i:Nat) (f:Field),fs[i]?=some f→∃ x,DataW.trod enc P w base spare held fuel f.type ((cs.drop (f.offset-o)).take (P.cellsOf f.type))=some x)→cs.length=ks.length→Kin ks cs
 |[],o,ks,cs,hk,h,hl=>by
  simp only[nI,Option.some.injEq]at hk
  subst hk
  exact⟨hl,fun i k e=>by simp at e⟩
 |f::fs,o,ks,cs,hk,h,hl=>by
  unfold nI at hk
  split at hk
  case isFalse=>cases hk
  rename_i ho
  split at hk
  case h_2=>cases hk
  rename_i a ha
  split at hk
  case isFalse=>cases hk
  rename_i hal
  split at hk
  case h_2=>cases hk
  rename_i b hb
  cases hk
  obtain⟨x,hx⟩:=h 0 f rfl
  rw[ho,Nat.sub_self,List.drop_zero,←hal]at hx
  have k1:=hgo f.type a _ x ha hx
  rw[List.length_append]at hl
  have k2:=xE hgo fs (o+a.length) b (cs.drop a.length) hb (by
   intro i g hg
   obtain⟨y,hy⟩:=h (i+1) g (by simpa using hg)
   refine⟨y,?_⟩
   rw[List.drop_drop]
   have hge:o+a.length≤g.offset:=xI hb i g hg
   rw[show a.length+(g.offset-(o+a.length))=g.offset-o by omega]
   exact hy) (by rw[List.length_drop];omega)
  have:=Kin.append k1 k2
  rwa [List.take_append_drop]at this
theorem tF:∀ (d:Nat) (t:TypeId) (ks:List CK) (fuel:Nat) (cs:List Value) (x:DataW H × List MemPlace),lD P d t=some ks→DataW.trod enc P w base spare held fuel t cs=some x→Kin ks cs
 |0,t,ks,fuel,cs,x,hk,h=>by simp [lD]at hk
 |d+1,t,ks,fuel,cs,x,hk,h=>by
  unfold lD at hk
  split at hk
  ·rename_i hu
   cases hk
   obtain⟨b,rfl,_⟩:=DataW.trod_bool hu h
   refine⟨rfl,fun i k e=>?_⟩
   match i,e with
   |0,e=>
    cases e
    exact⟨if b then 1 else 0,by cases b<;>rfl,by cases b;exact .inl rfl;exact .inr rfl⟩
  ·rename_i k0 hu
   cases hk
   obtain⟨n,rfl,_,hw⟩:=DataW.trod_int hu h
   refine⟨rfl,fun i k e=>?_⟩
   match i,e with
   |0,e=>
    cases e
    exact⟨n,by rw[(aH0 hw).1];rfl,(aH0 hw).2⟩
  ·rename_i fs hu
   split at hk
   case h_2=>cases hk
   rename_i a ha
   split at hk
   case isFalse=>cases hk
   rename_i hl
   cases hk
   obtain⟨xs,n,rfl,_,hcl,hxl,hf⟩:=DataW.trod_struct hu h
   have:=xE (fun t ks cs x=>tF d t ks n cs x) fs.toList 0 ks (cs.drop 0) ha (by
    intro i f hfi
    have e:=hf i f (by simpa using hfi)
    have hi:i<xs.length:=by rw[hxl];have:=(List.getElem?_eq_some_iff.1 hfi).1;simpa using this
    refine⟨xs[i],?_⟩
    rw[List.drop_zero,Nat.sub_zero,e];simp [hi]) (by rw[List.drop_zero,hcl,hl])
   simpa using this
  ·rename_i n e hu
   split at hk
   case h_2=>cases hk
   rename_i a ha
   split at hk
   case isFalse=>cases hk
   rename_i hl
   cases hk
   obtain⟨xs,m,rfl,_,hcl,hxl,hf⟩:=DataW.trod_array hu h
   have key:∀ j,j≤n→Kin (List.replicate j a).flatten (cs.take (j*a.length)):=by
    intro j
    induction j with
    |zero=>intro _;exact⟨by simp,fun i k e=>by simp at e⟩
    |succ j ih=>
     intro hj
     have e1:=hf j (by omega)
     rw[←hl.1]at e1
     have k1:=tF d e a m _ xs[j] ha (by rw[e1];simp [hxl,show j<n by omega])
     have e2:cs.take ((j+1)*a.length)=cs.take (j*a.length)++(cs.drop (j*a.length)).take a.length:=by
      rw[Nat.succ_mul,List.take_add]
     rw[e2,List.replicate_succ',List.flatten_append]
     simpa using Kin.append (ih (by omega)) k1
   have:=key n (Nat.le_refl _)
   rw[hl.2,←hcl,List.take_length]at this
   exact this
  ·cases hk
end
theorem aFE {H:Type} {enc:TypeId × Value→H} {P:Program} {W:World} {base base' d0:Nat} {spare:Nat→Bool} {held:Bool} {t e:TypeId} {v:Value} {d:DataW H} {p:List MemPlace} (ks:List CK)
  (hu:P.underlying t=some (.slice e)) (hk:lD P d0 e=some ks) (hce:ks.length=P.cellsOf e) (hpos:0<ks.length)
  (hok:Value.okWide P W .any base t v) (htr:DataW.Trod enc P W base' spare held t v d p):
  ∃ (b:Sx.Loc) (L:List (List Int)),v=(if b.nil then .slice none 0 0 else .slice (some ⟨b.blk,b.base,none⟩) L.length b.cap)∧(b.nil=true→L=[]∧b.cap=0)∧L.length≤b.cap∧L.length≤9223372036854775807∧(b.nil=true∨b.blk<W.heap.size)∧
   (∀ r,r ∈ L→r.length=ks.length∧∀ (i:Nat) (k:CK),ks[i]?=some k→pK k (r.getD i 0))∧jC b W.heap[b.blk]? [aJn ks L true]:=by
 obtain⟨fuel,htr⟩:=htr
 have hvs:∃ a len cap,v = .slice a len cap:=Go.WideShapes.okWide_slice hu hok
 obtain⟨a0,len0,cap0,rfl⟩:=hvs
 rcases DataW.trod_slice hu htr with⟨h,_⟩|⟨a,len,cap,elems,rest,n,_,h,_,hb,hl,hc,hel,hrd,_⟩
 ·have h:a0=none∧len0=0∧cap0=0:=by simpa [Value.cells]using h
  obtain⟨rfl,rfl,rfl⟩:=h
  refine⟨⟨0,0,true,0⟩,[],rfl,fun _=>⟨rfl,rfl⟩,by simp,by simp,.inl rfl,(fun r hr=>nomatch hr),?_⟩
  exact⟨_,ks.length,true,rfl,hpos,.inl ⟨rfl,rfl⟩⟩
 ·have h:a0=some a∧len0=len∧cap0=cap:=by simpa [Value.cells]using h
  obtain⟨rfl,rfl,rfl⟩:=h
  have hsp:a.spot=none∧∃ cs T fz,W.heap[a.block]?=some (.cells cs T fz):=by
   unfold Value.okWide at hok
   rw[hu]at hok
   simp only at hok
   unfold Cell.okWide at hok
   rw[hu]at hok
   simp only at hok
   unfold Cell.ok at hok
   rw[hu]at hok
   simp only at hok
   obtain⟨_,_,_,h2,row,cells,h3,_⟩:=hok
   refine⟨h2,?_⟩
   unfold World.shape? at h3
   split at h3
   ·exact⟨_,_,_,by assumption⟩
   ·cases h3
  obtain⟨ablk,aoff,aspot⟩:=a
  obtain⟨rfl,ccs,cT,cfz,hcc⟩:=hsp
  simp only at hcc hb
  have hlt:ablk<W.heap.size:=(Array.getElem?_eq_some_iff.1 hcc).1
  have one:∀ i,i<len0→∃ r:List Int,(r.length=ks.length∧∀ (j:Nat) (k:CK),ks[j]?=some k→pK k (r.getD j 0))∧∀ j u,(dG ks r)[j]?=some u→W.cell? ⟨ablk,aoff+(i*ks.length+j),none⟩=some u:=by
   intro i hi
   have h1:=hrd i hi
   have h2:elems[i]?=some elems[i]:=by simp [hel,hi]
   rw[h2,Option.bind_eq_some_iff]at h1
   obtain⟨cs,h3,h4⟩:=h1
   have h5:=tF d0 e ks n cs _ hk h4
   obtain⟨r,r1,r2,r3⟩:=h5.row
   refine⟨r,⟨r1,r3⟩,fun j u hu=>?_⟩
   rw[←r2]at hu
   unfold World.cells? at h3
   split at h3
   case isFalse=>cases h3
   have hj:j<P.cellsOf e:=by
    have:=(List.getElem?_eq_some_iff.1 hu).1
    rw[h5.1,hce]at this;exact this
   have h6:=mapM_some_get h3 j j (by simp [hj])
   rw[hu]at h6
   rw[←h6,cD,cD,hce,Nat.add_assoc]
  classical
  obtain⟨f,hf⟩:∃ f:Nat→List Int,∀ i,i<len0→((f i).length=ks.length∧∀ (j:Nat) (k:CK),ks[j]?=some k→pK k ((f i).getD j 0))∧∀ j u,(dG ks (f i))[j]?=some u→W.cell? ⟨ablk,aoff+(i*ks.length+j),none⟩=some u:=by
   refine⟨fun i=>if q:i<len0 then (one i q).choose else [],fun i hi=>?_⟩
   simp only[dif_pos hi]
   exact(one i hi).choose_spec
  obtain⟨L,hL⟩:∃ L,L=(List.range len0).map f:=⟨_,rfl⟩
  have hLl:L.length=len0:=by rw[hL];simp
  have hmem:∀ r,r ∈ L→∃ i,i<len0∧r=f i:=by
   intro r hr
   rw[hL]at hr
   obtain⟨i,hi,rfl⟩:=List.mem_map.1 hr
   exact⟨i,by simpa using hi,rfl⟩
  refine⟨⟨ablk,cap0,false,aoff⟩,L,by rw[hLl];rfl,(fun q=>by cases q),by rw[hLl];exact hl,by rw[hLl];unfold maxLen at hc;omega,.inr hlt,fun r hr=>?_,?_⟩
  ·obtain⟨i,hi,rfl⟩:=hmem r hr
   exact(hf i hi).1
  ·refine⟨_,ks.length,true,rfl,hpos,.inr ⟨rfl,?_⟩⟩
   have hcell:∀ i u,(aK ks L)[i]?=some u→W.cell? ⟨ablk,aoff+i,none⟩=some u:=by
    intro i u hi
    have hlt2:=(List.getElem?_eq_some_iff.1 hi).1
    rw[aT,hLl]at hlt2
    have hq:i / ks.length<len0:=Nat.div_lt_of_lt_mul (by rw[Nat.mul_comm];exact hlt2)
    have hm:i % ks.length<ks.length:=Nat.mod_lt _ hpos
    have e0:i=i / ks.length*ks.length+i % ks.length:=by rw[Nat.mul_comm];exact(Nat.div_add_mod i ks.length).symm
    have e1:(aK ks L)[i / ks.length*ks.length+i % ks.length]?=some ((ks[i % ks.length]).mk ((L.getD (i / ks.length) []).getD (i % ks.length) 0)):=dY (by simp [hm]) L _ (by rw[hLl];exact hq)
    rw[←e0,hi]at e1
    have e2:L.getD (i / ks.length) []=f (i / ks.length):=by rw[hL];simp [List.getD,hq]
    have e3:(dG ks (f (i / ks.length)))[i % ks.length]?=some ((ks[i % ks.length]).mk ((f (i / ks.length)).getD (i % ks.length) 0)):=by
     unfold dG
     rw[List.getElem?_map,List.getElem?_zipIdx]
     simp [hm]
    rw[e2,←e3]at e1
    have:=(hf _ hq).2 _ u e1.symm
    rwa [←e0]at this
   refine⟨ccs,cT,cfz,hcc,fun i u hi=>?_⟩
   have:=hcell i u hi
   simpa [World.cell?,hcc]using this
theorem aFw {G:Nat→List Int→Int} {ρ:Nat→Int} {W:World} (vs:List (Sx.Loc × List SV)) (h:∀ q,q ∈ vs→(q.1.nil=true∨q.1.blk<W.heap.size)∧∃ us,jC q.1 W.heap[q.1.blk]? us∧SV.RL G ρ (fun _=>none) q.2 us):
  RelW G ρ [] (fun id=>(vs[id]?).map (·.1)) (vs.map fun q=>some (q.2,aV)) W:=by
 have hvis:∀ id,¬gI (vs.map fun q=>(some (q.2,aV):fR)) id:=by
  rintro id ⟨q,hq,hv⟩
  rw[List.getElem?_map]at hq
  cases e:vs[id]? with
  |none=>rw[e]at hq;cases hq
  |some p=>
   rw[e]at hq
   have:q=(p.2,aV):=by cases hq;rfl
   rw[this]at hv
   exact absurd hv (show ¬vw aV=false by decide)
 have get:∀ (id:Nat) (b:Sx.Loc),(vs[id]?).map (fun q:Sx.Loc × List SV=>q.1)=some b→∃ q:Sx.Loc × List SV,vs[id]?=some q∧q.1=b:=by
  intro id b e
  cases e2:vs[id]? with
  |none=>rw[e2]at e;cases e
  |some p=>rw[e2]at e;exact⟨p,rfl,by cases e;rfl⟩
 refine⟨fun id b e=>?_,fun i j b c _ _ _ _ _ vi _=>absurd vi (hvis i),fun id cs T e=>?_,(fun p hp=>nomatch hp),fun id cs T b _ _ _ _ j c _ _ _ vj=>absurd vj (hvis j)⟩
 ·obtain⟨q,hq,rfl⟩:=get id b e
  exact⟨by rw[List.length_map];exact(List.getElem?_eq_some_iff.1 hq).1,(h q (List.mem_of_getElem? hq)).1⟩
 ·rw[List.getElem?_map]at e
  cases e2:vs[id]? with
  |none=>rw[e2]at e;cases e
  |some p=>
   rw[e2]at e
   cases e
   obtain⟨_,us,h1,h2⟩:=h p (List.mem_of_getElem? e2)
   exact⟨p.1,us,rfl,(kL (by decide)).2 h1,SV.RL_mono (fun _ _ z=>by cases z) _ _ h2⟩
theorem aI1 {G:Nat→List Int→Int} {ρ:Nat→Int} {α:aQ} {ks:List CK} {L:List (List Int)} {C n:E} (h1:C.den G ρ=Lc.enc L) (h2:n.den G ρ=L.length):SV.RL G ρ α [.vec ks C n true] [aJn ks L true]:=by
 refine aX ?_ bB
 simp only[SV.R]
 rw[h1,Lc.dec_enc,h2]
 exact⟨rfl,rfl⟩
theorem aGk {G:Nat→List Int→Int} {ρ:Nat→Int} {α:aQ} {id:Nat} {b:Sx.Loc} {L:List (List Int)} {n:E} {v:Value} (ha:α id=some b) (hn:n.den G ρ=L.length)
  (hv:v=(if b.nil then .slice none 0 0 else .slice (some ⟨b.blk,b.base,none⟩) L.length b.cap)) (hnil:b.nil=true→L=[]∧b.cap=0) (hle:L.length≤b.cap):SV.R G ρ α (.own id n none) v:=by
 simp only[SV.R]
 refine⟨b,ha,by omega,?_,fun q=>?_,by omega,fun e he=>by cases he⟩
 ·rw[hn,Int.toNat_natCast];exact hv
 ·obtain⟨q1,q2⟩:=hnil q
  exact⟨by rw[hn,q1];rfl,q2⟩
theorem aJI {P:Program} {G:Nat→List Int→Int} {f:FuncId} {F:FunS} {ρ:Nat→Int} {W:World} {vals:List Value} {α:aQ} (hF:eC P G [] f F ρ) (hW:RelW G ρ [] α F.H W) (hvis:∀ id,¬gI F.H id) (hv:SV.RL G ρ α F.args vals) (hb:F.b = .lit true) (hs:F.s1 = .bool (.lit true)):
  Calls P f vals.toArray W (fun e w'=>e = .returned (.bool true)∧Below W.heap.size W w'):=by
 obtain⟨_,hc⟩:=hF α W vals hW hv
 refine hc.mono ?_
 rintro e w' ⟨v,α',r,hr,rfl,rv,_,x⟩
 rw[hb]at hr
 have hr:r=true:=hr.symm
 subst hr
 rw[hs]at rv
 simp only[if_true,SV.R,B.den]at rv
 subst rv
 exact⟨rfl,x.os,x.tape,x.output,x.size,fun k hk=>x.hid k hk (fun id b _ _ _=>hvis id)⟩
theorem yX (l:List (List SV)):∀ id,¬gI (l.map fun q=>(some (q,aV):fR)) id:=by
 rintro id ⟨q,hq,hv⟩
 rw[List.getElem?_map]at hq
 cases e:l[id]? with
 |none=>rw[e]at hq;cases hq
 |some p=>
  rw[e]at hq
  have:q=(p,aV):=by cases hq;rfl
  rw[this]at hv
  exact absurd hv (show ¬vw aV=false by decide)
end Go.Proofs.Ythiehfhphgkaeaa
namespace Go.Proofs.Ythiehfhphgkaeaa
open Go Go.RowKit Sx Wi
def aDA:aY:=iW 11 sB aKa
theorem tQ {X:Ctx} {ρ:Nat→Int} (hX:X.Ok ρ) (hG:X.G=G):gP Try.prog X ρ GB aDA:=fZ (aHW hX hG) (aHS hX hG)
def nB:List (Int × Int):=[(0,256),(0,256),(0,1),(0,256)]
def aKW:List (Int × Int):=[(0,9223372036854775807)]
def aLF:St:=⟨[(.own 0 (.var 0) none),.any,.any,(.vsl 1 1 (.lit 0) (.app 54 (.cons (.var 4) (.cons (.var 0) .nil))) (some (.app 54 (.cons (.var 4) (.cons (.var 0) .nil))))),(.int .i64 (.lit 0)),(.bool (.cmp .eq (.var 2) (.lit 1))),(.int .i64 (.var 3)),(.int .i64 (.var 1)),.any,.any,.any,.any,.any,.any,.any,.any,.any,.any,.any,.any,.any,.any,.any,.any,.any,.any,.any,.any,.any,.any,.any,.any,.any,.any,.any,.any,.any,.any,.any,.any,.any,.any,.any,.any,.any,.any,.any,.any,.any,.any,.any,.any,.any,.any,.any,.any,.any,.any,.any,.any,.any,.any,.any,.any,.any,.any,.any,.any,.any,.any,.any,.any,.any,.any,.any,.any,.any,.any,.any,.any,.any,.any,.any,.any,.any,.any,.any,.any,.any,.any,.any,.any,.any,.any],[some ([.vec [.int .u8,.int .i32,.int .i32,.int .i32,.int .i32,.int .i32,.int .i32] (.var 4) (.var 0) true],aV),some ([.tuple [.any,.int .i64 (.lit 1),.bool (.lit false)]],aW+30)]⟩
def aKf:St:=⟨[.any,.any,.any,(.vsl 1 1 (.lit 0) (.app 54 (.cons (.var 1) (.cons (.var 0) .nil))) (some (.app 54 (.cons (.var 1) (.cons (.var 0) .nil))))),(.int .i64 (.lit 0)),(.bool (.cmp .eq (.app 55 (.cons (.var 1) (.cons (.var 0) .nil))) (.lit 1))),(.int .i64 (.app 58 (.cons (.var 1) (.cons (.var 0) .nil)))),.any,.any,.any,.any,.any,.any,.any,.any,.any,.any,.any,.any,.any,.any,.any,.any,.any,.any,.any,.any,.any,.any,.any,.any,.any,.any,.any,.any,.any,.any,.any,.any,.any,.any,.any,.any,.any,.any,.any,.any,.any,.any,.any,.any,.any,.any,.any,.any,.any,.any,.any,.any,.any,.any,.any,.any,.any,.any,.any,.any,.any,.any,.any,.any,.any,.any,.any,.any,.any,.any,.any,.any,.any,.any,.any,.any,.any,.any,.any,.any,.any,.any,.any,.any,.any,.any,.any],[some ([.vec [.int .u8,.int .i32,.int .i32,.int .i32,.int .i32,.int .i32,.int .i32] (.var 1) (.var 0) true],aV),some ([.tuple [.any,.int .i64 (.lit 1),.bool (.lit false)]],aW+30)]⟩
def aKi:LoopS:=⟨1,2,aLF,.lit true,.exit 0,aKf,.exit 0,aKf⟩
def aHd:LoopU:=⟨aKi,[.var 0,.lit 0,.lit 1,.lit 0,.var 1],nB,.lit true⟩
def qD (P:Program) (fs:List B):Res SV:=bU G GI nB fs fun X=>gL P X GB aDA dE 4000 (cY (bZ P 8) 0) aKi
def aLH:St:=⟨[(.own 0 (.var 0) none),.any,.any,(.con (.slice none 0 0)),(.int .i64 (.op .sub (.lit 4) (.op .min (.lit 1) (.op .max (.lit 0) (.op .sub (.var 0) (.lit 256)))))),(.bool (.cmp .eq (.var 2) (.lit 1))),(.int .i64 (.var 3)),(.int .i64 (.var 1)),.any,.any,.any,.any,.any,.any,.any,.any,.any,.any,.any,.any,.any,.any,.any,.any,.any,.any,.any,.any,.any,.any,.any,.any,.any,.any,.any,.any,.any,.any,.any,.any,.any,.any,.any,.any,.any,.any,.any,.any,.any,.any,.any,.any,.any,.any,.any,.any,.any,.any,.any,.any,.any,.any,.any,.any,.any,.any,.any,.any,.any,.any,.any,.any,.any,.any,.any,.any,.any,.any,.any,.any,.any,.any,.any,.any,.any,.any,.any,.any,.any,.any,.any,.any,.any,.any],[some ([.vec [.int .u8,.int .i32,.int .i32,.int .i32,.int .i32,.int .i32,.int .i32] (.var 4) (.var 0) true],aV)]⟩
def aKg:St:=⟨[.any,.any,.any,(.con (.slice none 0 0)),(.int .i64 (.op .sub (.lit 4) (.op .min (.lit 1) (.op .max (.lit 0) (.op .sub (.var 0) (.lit 256)))))),(.bool (.cmp .eq (.app 55 (.cons (.var 1) (.cons (.var 0) .nil))) (.lit 1))),(.int .i64 (.app 58 (.cons (.var 1) (.cons (.var 0) .nil)))),.any,.any,.any,.any,.any,.any,.any,.any,.any,.any,.any,.any,.any,.any,.any,.any,.any,.any,.any,.any,.any,.any,.any,.any,.any,.any,.any,.any,.any,.any,.any,.any,.any,.any,.any,.any,.any,.any,.any,.any,.any,.any,.any,.any,.any,.any,.any,.any,.any,.any,.any,.any,.any,.any,.any,.any,.any,.any,.any,.any,.any,.any,.any,.any,.any,.any,.any,.any,.any,.any,.any,.any,.any,.any,.any,.any,.any,.any,.any,.any,.any,.any,.any,.any,.any,.any,.any],[some ([.vec [.int .u8,.int .i32,.int .i32,.int .i32,.int .i32,.int .i32,.int .i32] (.var 1) (.var 0) true],aV)]⟩
def aKd:LoopS:=⟨1,1,aLH,.lit true,.exit 0,aKg,.exit 0,aKg⟩
def aGt:LoopU:=⟨aKd,[.var 0,.lit 0,.lit 1,.lit 0,.var 1],nB,.lit true⟩
def qF (P:Program) (fs:List B):Res SV:=bU G GI nB fs fun X=>gL P X GB aDA dE 4000 (cY (bZ P 8) 0) aKd
def aJ8:eG:=iJ 9 (eZ (bI GB) [aHd,aGt]) dE
def aLB:FunS:=⟨[(.own 0 (.var 0) none)],[some ([.vec [.int .u8,.int .i32,.int .i32,.int .i32,.int .i32,.int .i32,.int .i32] (.var 1) (.var 0) true],aV)],.lit true,.bool (.lit true),[none],.bool (.lit true),[none]⟩
def aGx (P:Program) (fs:List B):Res SV:=bU G GI aKW fs fun X=>fH P X GB aDA aJ8 4000 8 aLB
end Go.Proofs.Ythiehfhphgkaeaa
set_option maxRecDepth 100000
namespace Go.Proofs.Ythiehfhphgkaeaa
open Go Go.RowKit Sx Wi
def lC (P:Program) (fs:List B):Res SV:=aGx P fs
def aBt:List B:=[]
def eV:B:=(.cmp .lt (.lit 400) (.var 0))
def aGA:List B:=aU eV++aBt
def zZ:List B:=aU (B.neg eV)++aBt
def fQ:B:=(.and (.cmp .le (.var 0) (.lit 256)) (.cmp .eq (.app 55 (.cons (.var 1) (.cons (.var 0) .nil))) (.lit 1)))
def aBm:List B:=aU fQ++zZ
def eX:B:=(.cmp .eq (.app 54 (.cons (.var 1) (.cons (.var 0) .nil))) (.app 58 (.cons (.var 1) (.cons (.var 0) .nil))))
def aH6:List B:=aU eX++aBm
def aIO:List B:=aU (B.neg eX)++aBm
def aA4:List B:=aU (B.neg fQ)++zZ
def iF:B:=(.cmp .lt (.lit 256) (.var 0))
def aGC:List B:=aU iF++aA4
def aAZ:List B:=aU (B.neg iF)++aA4
def jR:B:=(.cmp .ne (.app 55 (.cons (.var 1) (.cons (.var 0) .nil))) (.lit 1))
def aHK:List B:=aU jR++aAZ
def wY:List B:=aU (B.neg jR)++aAZ
def aEC:List B:=aU eX++wY
def aEQ:List B:=aU (B.neg eX)++wY
theorem aGL:lC Try.prog aGA = .ok (.tuple [(.agg []),(.bool (.lit true))]):=by kernel_rfl
theorem aG7:lC Try.prog aH6 = .ok (.tuple [(.agg []),(.bool (.lit true))]):=by kernel_rfl
theorem aIz:lC Try.prog aIO = .ok (.tuple [(.agg [(.bool (.lit false)),(.bool (.lit true))]),(.bool (.lit true))]):=by kernel_rfl
theorem aHi:lC Try.prog aGC = .ok (.tuple [(.agg []),(.bool (.lit true))]):=by kernel_rfl
theorem aGN:lC Try.prog aHK = .ok (.tuple [(.agg []),(.bool (.lit true))]):=by kernel_rfl
theorem aEf:lC Try.prog aEC = .ok (.tuple [(.agg []),(.bool (.lit true))]):=by kernel_rfl
theorem aD3:lC Try.prog aEQ = .ok (.tuple [(.agg [(.bool (.lit false)),(.bool (.lit true))]),(.bool (.lit true))]):=by kernel_rfl
end Go.Proofs.Ythiehfhphgkaeaa
set_option maxRecDepth 100000
namespace Go.Proofs.Ythiehfhphgkaeaa
open Go Go.RowKit Sx Wi
def jQ (P:Program) (fs:List B):Res SV:=qD P fs
def yA:List B:=[]
def dV:B:=(.cmp .lt (.var 1) (.var 0))
def xY:List B:=aU dV++yA
def eN:B:=(.cmp .lt (.lit 3) (.app 84 (.cons (.var 4) (.cons (.var 1) (.cons (.lit 0) .nil)))))
def aEq:List B:=aU eN++xY
def iC:SV:=(.agg [(.int .i64 (.app 54 (.cons (.var 4) (.cons (.var 0) .nil)))),(.int .i64 (.app 54 (.cons (.var 4) (.cons (.var 0) .nil)))),(.int .i64 (.app 54 (.cons (.var 4) (.cons (.var 0) .nil)))),(.int .i64 (.app 54 (.cons (.var 4) (.cons (.var 0) .nil)))),(.bool (.lit false)),(.bool (.cmp .eq (.var 2) (.lit 1))),(.int .i64 (.var 3)),(.int .i64 (.var 3)),(.int .i64 (.op .add (.var 1) (.lit 1))),(.int .i64 (.var 1)),(.int .i64 (.var 4)),(.int .i64 (.var 4))])
def wJ:List B:=aU (B.neg eN)++xY
def fN:B:=(.cmp .ne (.app 84 (.cons (.var 4) (.cons (.var 1) (.cons (.lit 0) .nil)))) (.lit 0))
def wZ:List B:=aU fN++wJ
def gJ:B:=(.cmp .eq (.var 1) (.lit 0))
def aEg:List B:=aU gJ++wZ
def aE1:List B:=aU (B.neg gJ)++wZ
def kF:B:=(.cmp .lt (.op .sub (.var 1) (.lit 1)) (.var 0))
def wE:List B:=aU kF++aE1
def kB:B:=(.cmp .eq (.app 84 (.cons (.var 4) (.cons (.op .sub (.var 1) (.lit 1)) (.cons (.lit 0) .nil)))) (.lit 3))
def aF6:List B:=aU kB++wE
def aGa:List B:=aU (B.neg kB)++wE
def xT:SV:=(.agg [(.int .i64 (.app 54 (.cons (.var 4) (.cons (.var 0) .nil)))),(.int .i64 (.app 54 (.cons (.var 4) (.cons (.var 0) .nil)))),(.int .i64 (.app 54 (.cons (.var 4) (.cons (.var 0) .nil)))),(.int .i64 (.app 54 (.cons (.var 4) (.cons (.var 0) .nil)))),(.bool (.cmp .eq (.var 2) (.lit 1))),(.bool (.cmp .eq (.var 2) (.lit 1))),(.int .i64 (.var 3)),(.int .i64 (.var 3)),(.int .i64 (.op .add (.var 1) (.lit 1))),(.int .i64 (.var 1)),(.int .i64 (.var 4)),(.int .i64 (.var 4))])
def aCn:List B:=aU (B.neg fN)++wJ
def xS:SV:=(.agg [(.int .i64 (.app 54 (.cons (.var 4) (.cons (.var 0) .nil)))),(.int .i64 (.app 54 (.cons (.var 4) (.cons (.var 0) .nil)))),(.int .i64 (.app 54 (.cons (.var 4) (.cons (.var 0) .nil)))),(.int .i64 (.app 54 (.cons (.var 4) (.cons (.var 0) .nil)))),(.bool (.cmp .eq (.var 2) (.lit 1))),(.bool (.cmp .eq (.var 2) (.lit 1))),(.int .i64 (.op .add (.var 3) (.lit 1))),(.int .i64 (.var 3)),(.int .i64 (.op .add (.var 1) (.lit 1))),(.int .i64 (.var 1)),(.int .i64 (.var 4)),(.int .i64 (.var 4))])
def aBP:List B:=aU (B.neg dV)++yA
def xB:SV:=(.tuple [(.agg [(.int .i64 (.app 54 (.cons (.var 4) (.cons (.var 0) .nil)))),(.int .i64 (.app 54 (.cons (.var 1) (.cons (.var 0) .nil)))),(.int .i64 (.app 54 (.cons (.var 4) (.cons (.var 0) .nil)))),(.int .i64 (.app 54 (.cons (.var 1) (.cons (.var 0) .nil)))),(.bool (.cmp .eq (.var 2) (.lit 1))),(.bool (.cmp .eq (.app 55 (.cons (.var 1) (.cons (.var 0) .nil))) (.lit 1))),(.int .i64 (.var 3)),(.int .i64 (.app 58 (.cons (.var 1) (.cons (.var 0) .nil)))),(.int .i64 (.var 4)),(.int .i64 (.var 1))]),(.bool (.lit true))])
theorem aEu:jQ Try.prog aEq = .ok iC:=by kernel_rfl
theorem aFM:jQ Try.prog aEg = .ok iC:=by kernel_rfl
theorem aE8:jQ Try.prog aF6 = .ok iC:=by kernel_rfl
theorem aDF:jQ Try.prog aGa = .ok xT:=by kernel_rfl
theorem aCa:jQ Try.prog aCn = .ok xS:=by kernel_rfl
theorem aB1:jQ Try.prog aBP = .ok xB:=by kernel_rfl
end Go.Proofs.Ythiehfhphgkaeaa
