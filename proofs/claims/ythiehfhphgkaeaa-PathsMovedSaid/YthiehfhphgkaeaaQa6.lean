/- What is proved: a aOL of a move and lines,as it is told. No condition but the numbers' own bounds. -/
import Derived.Test.YthiehfhphgkaeaaQa5
import Derived.Test.YthiehfhphgkaeaaQg6
import Derived.Test.YthiehfhphgkaeaaQg4
import Derived.Test.YthiehfhphgkaeaaQa1
set_option linter.unusedSimpArgs false
set_option linter.unusedVariables false
namespace Go.Proofs.Ythiehfhphgkaeaa
open Go Go.RowKit Sx Wi
def vK (g h:Ctx→List SV→aG→Res (SV × aG)):Ctx→List SV→aG→Res (SV × aG):=fun X args σ=>
 match g X args σ with
 | .fail _=>h X args σ
 |r=>r
theorem mW {P:Program} {X:Ctx} {ρ:Nat→Int} {gb:dD} {f:FuncId} {g h:Ctx→List SV→aG→Res (SV × aG)} (hg:fR P X ρ gb f g) (hh:fR P X ρ gb f h):fR P X ρ gb f (vK g h):=by
 intro args σ s σ' e
 unfold vK at e
 split at e
 ·exact hh args σ s σ' e
 ·exact hg args σ s σ' e
set_option maxRecDepth 100000 in
theorem aDR (x0 x1 x2 x3 x4 x5:Int) (b0 : -2147483648≤x0∧x0≤2147483647) (b1 : -2147483648≤x1∧x1≤2147483647) (b2 : -2147483648≤x2∧x2≤2147483647) (b3 : -2147483648≤x3∧x3≤2147483647) (b4 : -2147483648≤x4∧x4≤2147483647) (b5 : -2147483648≤x5∧x5≤2147483647):eT Try.prog G GB 16 wH (eK ([x0,x1,x2,x3,x4,x5]:List Int)):=by
 refine dC (lp:=dP) (run:=wE Try.prog) (fun _=>rfl) fits (dO ⟨b0,b1,b2,b3,b4,b5,trivial⟩) eX (fun X hX hG=>bX hX hG) (fun X hX hG fn c hf hc=>cQ) rfl ?_
 refine aP aGi ?_
 exact⟨rfl,trivial⟩
def aBY:Ctx→List SV→aG→Res (SV × aG):=dT GB sI 0 (.lit true) wH
theorem aGF {X:Ctx} {ρ:Nat→Int} (hX:X.Ok ρ) (hG:X.G=G):fR Try.prog X ρ GB 16 aBY:=by
 obtain⟨XG,XI,XV,XF⟩:=X
 simp only at hG
 subst hG
 refine cU hX ?_
 intro xs ls hw hl _
 have hl':ls=[]:=List.length_eq_zero_iff.1 hl
 subst hl'
 rw[List.append_nil]
 unfold sI at hw
 obtain⟨x0,y0,e0,b0,h0⟩:=aM hw
 obtain⟨x1,y1,e1,b1,h1⟩:=aM h0
 obtain⟨x2,y2,e2,b2,h2⟩:=aM h1
 obtain⟨x3,y3,e3,b3,h3⟩:=aM h2
 obtain⟨x4,y4,e4,b4,h4⟩:=aM h3
 obtain⟨x5,y5,e5,b5,h5⟩:=aM h4
 have e6:=pR h5
 subst e6 e5 e4 e3 e2 e1 e0
 exact aDR x0 x1 x2 x3 x4 x5 b0 b1 b2 b3 b4 b5
set_option maxRecDepth 100000 in
theorem aDa (x0 x1 x2 x3 x4 x5 x6 x7 x8 x9 x10 x11:Int) (b0 : -2147483648≤x0∧x0≤2147483647) (b1 : -2147483648≤x1∧x1≤2147483647) (b2 : -2147483648≤x2∧x2≤2147483647) (b3 : -2147483648≤x3∧x3≤2147483647) (b4 : -2147483648≤x4∧x4≤2147483647) (b5 : -2147483648≤x5∧x5≤2147483647) (b6 : -2147483648≤x6∧x6≤2147483647) (b7 : -2147483648≤x7∧x7≤2147483647) (b8 : -2147483648≤x8∧x8≤2147483647) (b9 : -2147483648≤x9∧x9≤2147483647) (b10 : -2147483648≤x10∧x10≤2147483647) (b11 : -2147483648≤x11∧x11≤2147483647):eT Try.prog G GB 16 xQ (eK ([x0,x1,x2,x3,x4,x5,x6,x7,x8,x9,x10,x11]:List Int)):=by
 refine dC (lp:=dP) (run:=vN Try.prog) (fun _=>rfl) fits (dO ⟨b0,b1,b2,b3,b4,b5,b6,b7,b8,b9,b10,b11,trivial⟩) eX (fun X hX hG=>bX hX hG) (fun X hX hG fn c hf hc=>cQ) rfl ?_
 refine aP aGa ?_
 exact⟨rfl,trivial⟩
def aCR:Ctx→List SV→aG→Res (SV × aG):=dT GB rI 0 (.lit true) xQ
theorem aFq {X:Ctx} {ρ:Nat→Int} (hX:X.Ok ρ) (hG:X.G=G):fR Try.prog X ρ GB 16 aCR:=by
 obtain⟨XG,XI,XV,XF⟩:=X
 simp only at hG
 subst hG
 refine cU hX ?_
 intro xs ls hw hl _
 have hl':ls=[]:=List.length_eq_zero_iff.1 hl
 subst hl'
 rw[List.append_nil]
 unfold rI at hw
 obtain⟨x0,y0,e0,b0,h0⟩:=aM hw
 obtain⟨x1,y1,e1,b1,h1⟩:=aM h0
 obtain⟨x2,y2,e2,b2,h2⟩:=aM h1
 obtain⟨x3,y3,e3,b3,h3⟩:=aM h2
 obtain⟨x4,y4,e4,b4,h4⟩:=aM h3
 obtain⟨x5,y5,e5,b5,h5⟩:=aM h4
 obtain⟨x6,y6,e6,b6,h6⟩:=aM h5
 obtain⟨x7,y7,e7,b7,h7⟩:=aM h6
 obtain⟨x8,y8,e8,b8,h8⟩:=aM h7
 obtain⟨x9,y9,e9,b9,h9⟩:=aM h8
 obtain⟨x10,y10,e10,b10,h10⟩:=aM h9
 obtain⟨x11,y11,e11,b11,h11⟩:=aM h10
 have e12:=pR h11
 subst e12 e11 e10 e9 e8 e7 e6 e5 e4 e3 e2 e1 e0
 exact aDa x0 x1 x2 x3 x4 x5 x6 x7 x8 x9 x10 x11 b0 b1 b2 b3 b4 b5 b6 b7 b8 b9 b10 b11
set_option maxRecDepth 100000 in
theorem aDZ (x0 x1 x2 x3 x4 x5 x6 x7 x8 x9 x10 x11 x12 x13 x14 x15 x16 x17:Int) (b0 : -2147483648≤x0∧x0≤2147483647) (b1 : -2147483648≤x1∧x1≤2147483647) (b2 : -2147483648≤x2∧x2≤2147483647) (b3 : -2147483648≤x3∧x3≤2147483647) (b4 : -2147483648≤x4∧x4≤2147483647) (b5 : -2147483648≤x5∧x5≤2147483647) (b6 : -2147483648≤x6∧x6≤2147483647) (b7 : -2147483648≤x7∧x7≤2147483647) (b8 : -2147483648≤x8∧x8≤2147483647) (b9 : -2147483648≤x9∧x9≤2147483647) (b10 : -2147483648≤x10∧x10≤2147483647) (b11 : -2147483648≤x11∧x11≤2147483647) (b12 : -2147483648≤x12∧x12≤2147483647) (b13 : -2147483648≤x13∧x13≤2147483647) (b14 : -2147483648≤x14∧x14≤2147483647) (b15 : -2147483648≤x15∧x15≤2147483647) (b16 : -2147483648≤x16∧x16≤2147483647) (b17 : -2147483648≤x17∧x17≤2147483647):eT Try.prog G GB 16 vA (eK ([x0,x1,x2,x3,x4,x5,x6,x7,x8,x9,x10,x11,x12,x13,x14,x15,x16,x17]:List Int)):=by
 refine dC (lp:=dP) (run:=vU Try.prog) (fun _=>rfl) fits (dO ⟨b0,b1,b2,b3,b4,b5,b6,b7,b8,b9,b10,b11,b12,b13,b14,b15,b16,b17,trivial⟩) eX (fun X hX hG=>bX hX hG) (fun X hX hG fn c hf hc=>cQ) rfl ?_
 refine aP aFG ?_
 exact⟨rfl,trivial⟩
def aBt:Ctx→List SV→aG→Res (SV × aG):=dT GB sO 0 (.lit true) vA
theorem aE8 {X:Ctx} {ρ:Nat→Int} (hX:X.Ok ρ) (hG:X.G=G):fR Try.prog X ρ GB 16 aBt:=by
 obtain⟨XG,XI,XV,XF⟩:=X
 simp only at hG
 subst hG
 refine cU hX ?_
 intro xs ls hw hl _
 have hl':ls=[]:=List.length_eq_zero_iff.1 hl
 subst hl'
 rw[List.append_nil]
 unfold sO at hw
 obtain⟨x0,y0,e0,b0,h0⟩:=aM hw
 obtain⟨x1,y1,e1,b1,h1⟩:=aM h0
 obtain⟨x2,y2,e2,b2,h2⟩:=aM h1
 obtain⟨x3,y3,e3,b3,h3⟩:=aM h2
 obtain⟨x4,y4,e4,b4,h4⟩:=aM h3
 obtain⟨x5,y5,e5,b5,h5⟩:=aM h4
 obtain⟨x6,y6,e6,b6,h6⟩:=aM h5
 obtain⟨x7,y7,e7,b7,h7⟩:=aM h6
 obtain⟨x8,y8,e8,b8,h8⟩:=aM h7
 obtain⟨x9,y9,e9,b9,h9⟩:=aM h8
 obtain⟨x10,y10,e10,b10,h10⟩:=aM h9
 obtain⟨x11,y11,e11,b11,h11⟩:=aM h10
 obtain⟨x12,y12,e12,b12,h12⟩:=aM h11
 obtain⟨x13,y13,e13,b13,h13⟩:=aM h12
 obtain⟨x14,y14,e14,b14,h14⟩:=aM h13
 obtain⟨x15,y15,e15,b15,h15⟩:=aM h14
 obtain⟨x16,y16,e16,b16,h16⟩:=aM h15
 obtain⟨x17,y17,e17,b17,h17⟩:=aM h16
 have e18:=pR h17
 subst e18 e17 e16 e15 e14 e13 e12 e11 e10 e9 e8 e7 e6 e5 e4 e3 e2 e1 e0
 exact aDZ x0 x1 x2 x3 x4 x5 x6 x7 x8 x9 x10 x11 x12 x13 x14 x15 x16 x17 b0 b1 b2 b3 b4 b5 b6 b7 b8 b9 b10 b11 b12 b13 b14 b15 b16 b17
set_option maxRecDepth 100000 in
theorem aDi (x0 x1 x2 x3 x4 x5 x6 x7 x8 x9 x10 x11 x12 x13 x14 x15 x16 x17 x18 x19 x20 x21 x22 x23:Int) (b0 : -2147483648≤x0∧x0≤2147483647) (b1 : -2147483648≤x1∧x1≤2147483647) (b2 : -2147483648≤x2∧x2≤2147483647) (b3 : -2147483648≤x3∧x3≤2147483647) (b4 : -2147483648≤x4∧x4≤2147483647) (b5 : -2147483648≤x5∧x5≤2147483647) (b6 : -2147483648≤x6∧x6≤2147483647) (b7 : -2147483648≤x7∧x7≤2147483647) (b8 : -2147483648≤x8∧x8≤2147483647) (b9 : -2147483648≤x9∧x9≤2147483647) (b10 : -2147483648≤x10∧x10≤2147483647) (b11 : -2147483648≤x11∧x11≤2147483647) (b12 : -2147483648≤x12∧x12≤2147483647) (b13 : -2147483648≤x13∧x13≤2147483647) (b14 : -2147483648≤x14∧x14≤2147483647) (b15 : -2147483648≤x15∧x15≤2147483647) (b16 : -2147483648≤x16∧x16≤2147483647) (b17 : -2147483648≤x17∧x17≤2147483647) (b18 : -2147483648≤x18∧x18≤2147483647) (b19 : -2147483648≤x19∧x19≤2147483647) (b20 : -2147483648≤x20∧x20≤2147483647) (b21 : -2147483648≤x21∧x21≤2147483647) (b22 : -2147483648≤x22∧x22≤2147483647) (b23 : -2147483648≤x23∧x23≤2147483647):eT Try.prog G GB 16 wS (eK ([x0,x1,x2,x3,x4,x5,x6,x7,x8,x9,x10,x11,x12,x13,x14,x15,x16,x17,x18,x19,x20,x21,x22,x23]:List Int)):=by
 refine dC (lp:=dP) (run:=uS Try.prog) (fun _=>rfl) fits (dO ⟨b0,b1,b2,b3,b4,b5,b6,b7,b8,b9,b10,b11,b12,b13,b14,b15,b16,b17,b18,b19,b20,b21,b22,b23,trivial⟩) eX (fun X hX hG=>bX hX hG) (fun X hX hG fn c hf hc=>cQ) rfl ?_
 refine aP aF8 ?_
 exact⟨rfl,trivial⟩
def aCJ:Ctx→List SV→aG→Res (SV × aG):=dT GB sP 0 (.lit true) wS
theorem aGR {X:Ctx} {ρ:Nat→Int} (hX:X.Ok ρ) (hG:X.G=G):fR Try.prog X ρ GB 16 aCJ:=by
 obtain⟨XG,XI,XV,XF⟩:=X
 simp only at hG
 subst hG
 refine cU hX ?_
 intro xs ls hw hl _
 have hl':ls=[]:=List.length_eq_zero_iff.1 hl
 subst hl'
 rw[List.append_nil]
 unfold sP at hw
 obtain⟨x0,y0,e0,b0,h0⟩:=aM hw
 obtain⟨x1,y1,e1,b1,h1⟩:=aM h0
 obtain⟨x2,y2,e2,b2,h2⟩:=aM h1
 obtain⟨x3,y3,e3,b3,h3⟩:=aM h2
 obtain⟨x4,y4,e4,b4,h4⟩:=aM h3
 obtain⟨x5,y5,e5,b5,h5⟩:=aM h4
 obtain⟨x6,y6,e6,b6,h6⟩:=aM h5
 obtain⟨x7,y7,e7,b7,h7⟩:=aM h6
 obtain⟨x8,y8,e8,b8,h8⟩:=aM h7
 obtain⟨x9,y9,e9,b9,h9⟩:=aM h8
 obtain⟨x10,y10,e10,b10,h10⟩:=aM h9
 obtain⟨x11,y11,e11,b11,h11⟩:=aM h10
 obtain⟨x12,y12,e12,b12,h12⟩:=aM h11
 obtain⟨x13,y13,e13,b13,h13⟩:=aM h12
 obtain⟨x14,y14,e14,b14,h14⟩:=aM h13
 obtain⟨x15,y15,e15,b15,h15⟩:=aM h14
 obtain⟨x16,y16,e16,b16,h16⟩:=aM h15
 obtain⟨x17,y17,e17,b17,h17⟩:=aM h16
 obtain⟨x18,y18,e18,b18,h18⟩:=aM h17
 obtain⟨x19,y19,e19,b19,h19⟩:=aM h18
 obtain⟨x20,y20,e20,b20,h20⟩:=aM h19
 obtain⟨x21,y21,e21,b21,h21⟩:=aM h20
 obtain⟨x22,y22,e22,b22,h22⟩:=aM h21
 obtain⟨x23,y23,e23,b23,h23⟩:=aM h22
 have e24:=pR h23
 subst e24 e23 e22 e21 e20 e19 e18 e17 e16 e15 e14 e13 e12 e11 e10 e9 e8 e7 e6 e5 e4 e3 e2 e1 e0
 exact aDi x0 x1 x2 x3 x4 x5 x6 x7 x8 x9 x10 x11 x12 x13 x14 x15 x16 x17 x18 x19 x20 x21 x22 x23 b0 b1 b2 b3 b4 b5 b6 b7 b8 b9 b10 b11 b12 b13 b14 b15 b16 b17 b18 b19 b20 b21 b22 b23
set_option maxRecDepth 100000 in
theorem aDX (x0 x1 x2 x3 x4 x5 x6 x7 x8 x9 x10 x11 x12 x13 x14 x15 x16 x17:Int) (b0 : -2147483648≤x0∧x0≤2147483647) (b1 : -2147483648≤x1∧x1≤2147483647) (b2 : -2147483648≤x2∧x2≤2147483647) (b3 : -2147483648≤x3∧x3≤2147483647) (b4 : -2147483648≤x4∧x4≤2147483647) (b5 : -2147483648≤x5∧x5≤2147483647) (b6 : -2147483648≤x6∧x6≤2147483647) (b7 : -2147483648≤x7∧x7≤2147483647) (b8 : -2147483648≤x8∧x8≤2147483647) (b9 : -2147483648≤x9∧x9≤2147483647) (b10 : -2147483648≤x10∧x10≤2147483647) (b11 : -2147483648≤x11∧x11≤2147483647) (b12 : -2147483648≤x12∧x12≤2147483647) (b13 : -2147483648≤x13∧x13≤2147483647) (b14 : -2147483648≤x14∧x14≤2147483647) (b15 : -2147483648≤x15∧x15≤2147483647) (b16 : -2147483648≤x16∧x16≤2147483647) (b17 : -2147483648≤x17∧x17≤2147483647):eT Try.prog G GB 16 wK (eK ([x0,x1,x2,x3,x4,x5,x6,x7,x8,x9,x10,x11,x12,x13,x14,x15,x16,x17]:List Int)):=by
 refine dC (lp:=dP) (run:=xR Try.prog) (fun _=>rfl) fits (dO ⟨b0,b1,b2,b3,b4,b5,b6,b7,b8,b9,b10,b11,b12,b13,b14,b15,b16,b17,trivial⟩) eX (fun X hX hG=>bX hX hG) (fun X hX hG fn c hf hc=>cQ) rfl ?_
 refine aP aFw ?_
 exact⟨rfl,trivial⟩
def aCj:Ctx→List SV→aG→Res (SV × aG):=dT GB sL 0 (.lit true) wK
theorem aGj {X:Ctx} {ρ:Nat→Int} (hX:X.Ok ρ) (hG:X.G=G):fR Try.prog X ρ GB 16 aCj:=by
 obtain⟨XG,XI,XV,XF⟩:=X
 simp only at hG
 subst hG
 refine cU hX ?_
 intro xs ls hw hl _
 have hl':ls=[]:=List.length_eq_zero_iff.1 hl
 subst hl'
 rw[List.append_nil]
 unfold sL at hw
 obtain⟨x0,y0,e0,b0,h0⟩:=aM hw
 obtain⟨x1,y1,e1,b1,h1⟩:=aM h0
 obtain⟨x2,y2,e2,b2,h2⟩:=aM h1
 obtain⟨x3,y3,e3,b3,h3⟩:=aM h2
 obtain⟨x4,y4,e4,b4,h4⟩:=aM h3
 obtain⟨x5,y5,e5,b5,h5⟩:=aM h4
 obtain⟨x6,y6,e6,b6,h6⟩:=aM h5
 obtain⟨x7,y7,e7,b7,h7⟩:=aM h6
 obtain⟨x8,y8,e8,b8,h8⟩:=aM h7
 obtain⟨x9,y9,e9,b9,h9⟩:=aM h8
 obtain⟨x10,y10,e10,b10,h10⟩:=aM h9
 obtain⟨x11,y11,e11,b11,h11⟩:=aM h10
 obtain⟨x12,y12,e12,b12,h12⟩:=aM h11
 obtain⟨x13,y13,e13,b13,h13⟩:=aM h12
 obtain⟨x14,y14,e14,b14,h14⟩:=aM h13
 obtain⟨x15,y15,e15,b15,h15⟩:=aM h14
 obtain⟨x16,y16,e16,b16,h16⟩:=aM h15
 obtain⟨x17,y17,e17,b17,h17⟩:=aM h16
 have e18:=pR h17
 subst e18 e17 e16 e15 e14 e13 e12 e11 e10 e9 e8 e7 e6 e5 e4 e3 e2 e1 e0
 exact aDX x0 x1 x2 x3 x4 x5 x6 x7 x8 x9 x10 x11 x12 x13 x14 x15 x16 x17 b0 b1 b2 b3 b4 b5 b6 b7 b8 b9 b10 b11 b12 b13 b14 b15 b16 b17
def aBw:bB:=kI 16 (vK uV (vK aBY (vK aCR (vK aBt (vK aCJ aCj))))) dE
theorem aCv {X:Ctx} {ρ:Nat→Int} (hX:X.Ok ρ) (hG:X.G=G):iV Try.prog X ρ GB aBw:=iE (mW (aLU hX hG) (mW (aGF hX hG) (mW (aFq hX hG) (mW (aE8 hX hG) (mW (aGR hX hG) (aGj hX hG)))))) (bX hX hG)
def aAX:FunS:=⟨[],cD GB,.lit true,(.bool (.lit true)),cD GB,(.bool (.lit true)),cD GB⟩
def aAf (P:Program) (fs:List B):Res SV:=bY G GI [] fs fun X=>gA P X GB aBw dP 4000 11 aAX
end Go.Proofs.Ythiehfhphgkaeaa
set_option maxRecDepth 100000
namespace Go.Proofs.Ythiehfhphgkaeaa
open Go Go.RowKit Sx Wi
def aLq (P:Program) (fs:List B):Res SV:=aAf P fs
def aKg:List B:=[]
def aIF:B:=(.cmp .ne (.app 83 (.cons (.app 91 (.cons (.app 91 (.cons (.app 91 (.cons (.lit 0) (.cons (.app 2 (.cons (.lit 0) (.cons (.lit 256) .nil))) (.cons (.app 2 (.cons (.lit 0) (.cons (.lit 256) .nil))) .nil)))) (.cons (.app 2 (.cons (.lit 65536) (.cons (.lit 256) .nil))) (.cons (.app 2 (.cons (.lit 0) (.cons (.lit 256) .nil))) .nil)))) (.cons (.app 2 (.cons (.lit 65536) (.cons (.lit 256) .nil))) (.cons (.app 2 (.cons (.lit 65536) (.cons (.lit 256) .nil))) .nil)))) (.cons (.lit 0) (.cons (.lit 0) .nil)))) (.lit 0))
def aKB:List B:=aW (B.neg aIF)++aKg
def aJa:B:=(.cmp .ne (.app 83 (.cons (.app 91 (.cons (.app 91 (.cons (.app 91 (.cons (.lit 0) (.cons (.app 2 (.cons (.lit 0) (.cons (.lit 256) .nil))) (.cons (.app 2 (.cons (.lit 0) (.cons (.lit 256) .nil))) .nil)))) (.cons (.app 2 (.cons (.lit 65536) (.cons (.lit 256) .nil))) (.cons (.app 2 (.cons (.lit 0) (.cons (.lit 256) .nil))) .nil)))) (.cons (.app 2 (.cons (.lit 65536) (.cons (.lit 256) .nil))) (.cons (.app 2 (.cons (.lit 65536) (.cons (.lit 256) .nil))) .nil)))) (.cons (.lit 0) (.cons (.lit 1) .nil)))) (.lit 0))
def aKV:List B:=aW (B.neg aJa)++aKB
def aKz:B:=(.cmp .ne (.app 83 (.cons (.app 91 (.cons (.app 91 (.cons (.app 91 (.cons (.lit 0) (.cons (.app 2 (.cons (.lit 0) (.cons (.lit 256) .nil))) (.cons (.app 2 (.cons (.lit 0) (.cons (.lit 256) .nil))) .nil)))) (.cons (.app 2 (.cons (.lit 65536) (.cons (.lit 256) .nil))) (.cons (.app 2 (.cons (.lit 0) (.cons (.lit 256) .nil))) .nil)))) (.cons (.app 2 (.cons (.lit 65536) (.cons (.lit 256) .nil))) (.cons (.app 2 (.cons (.lit 65536) (.cons (.lit 256) .nil))) .nil)))) (.cons (.lit 1) (.cons (.lit 0) .nil)))) (.lit 256))
def aIu:List B:=aW (B.neg aKz)++aKV
def aH3:B:=(.cmp .ne (.app 83 (.cons (.app 91 (.cons (.app 91 (.cons (.app 91 (.cons (.lit 0) (.cons (.app 2 (.cons (.lit 0) (.cons (.lit 256) .nil))) (.cons (.app 2 (.cons (.lit 0) (.cons (.lit 256) .nil))) .nil)))) (.cons (.app 2 (.cons (.lit 65536) (.cons (.lit 256) .nil))) (.cons (.app 2 (.cons (.lit 0) (.cons (.lit 256) .nil))) .nil)))) (.cons (.app 2 (.cons (.lit 65536) (.cons (.lit 256) .nil))) (.cons (.app 2 (.cons (.lit 65536) (.cons (.lit 256) .nil))) .nil)))) (.cons (.lit 1) (.cons (.lit 1) .nil)))) (.lit 0))
def aK2:List B:=aW (B.neg aH3)++aIu
def aJy:B:=(.cmp .ne (.app 83 (.cons (.app 91 (.cons (.app 91 (.cons (.app 91 (.cons (.lit 0) (.cons (.app 2 (.cons (.lit 0) (.cons (.lit 256) .nil))) (.cons (.app 2 (.cons (.lit 0) (.cons (.lit 256) .nil))) .nil)))) (.cons (.app 2 (.cons (.lit 65536) (.cons (.lit 256) .nil))) (.cons (.app 2 (.cons (.lit 0) (.cons (.lit 256) .nil))) .nil)))) (.cons (.app 2 (.cons (.lit 65536) (.cons (.lit 256) .nil))) (.cons (.app 2 (.cons (.lit 65536) (.cons (.lit 256) .nil))) .nil)))) (.cons (.lit 2) (.cons (.lit 0) .nil)))) (.lit 256))
def aFd:List B:=aW (B.neg aJy)++aK2
def aFJ:B:=(.cmp .ne (.app 83 (.cons (.app 91 (.cons (.app 91 (.cons (.app 91 (.cons (.lit 0) (.cons (.app 2 (.cons (.lit 0) (.cons (.lit 256) .nil))) (.cons (.app 2 (.cons (.lit 0) (.cons (.lit 256) .nil))) .nil)))) (.cons (.app 2 (.cons (.lit 65536) (.cons (.lit 256) .nil))) (.cons (.app 2 (.cons (.lit 0) (.cons (.lit 256) .nil))) .nil)))) (.cons (.app 2 (.cons (.lit 65536) (.cons (.lit 256) .nil))) (.cons (.app 2 (.cons (.lit 65536) (.cons (.lit 256) .nil))) .nil)))) (.cons (.lit 2) (.cons (.lit 1) .nil)))) (.lit 256))
def aGJ:List B:=aW (B.neg aFJ)++aFd
def aE5:B:=(.cmp .ne (.app 83 (.cons (.app 44 (.cons (.lit 0) (.cons (.lit 0) (.cons (.lit 0) (.cons (.lit 65536) (.cons (.lit 65536) (.cons (.lit 65536) (.cons (.lit 65536) (.cons (.lit 0) .nil))))))))) (.cons (.lit 0) (.cons (.lit 0) .nil)))) (.lit 0))
def aFD:List B:=aW (B.neg aE5)++aGJ
def aGl:B:=(.cmp .ne (.app 83 (.cons (.app 44 (.cons (.lit 0) (.cons (.lit 0) (.cons (.lit 0) (.cons (.lit 65536) (.cons (.lit 65536) (.cons (.lit 65536) (.cons (.lit 65536) (.cons (.lit 0) .nil))))))))) (.cons (.lit 0) (.cons (.lit 1) .nil)))) (.lit 0))
def aFK:List B:=aW (B.neg aGl)++aFD
def aFZ:B:=(.cmp .ne (.app 83 (.cons (.app 44 (.cons (.lit 0) (.cons (.lit 0) (.cons (.lit 0) (.cons (.lit 65536) (.cons (.lit 65536) (.cons (.lit 65536) (.cons (.lit 65536) (.cons (.lit 0) .nil))))))))) (.cons (.lit 1) (.cons (.lit 0) .nil)))) (.lit 40))
def aHg:List B:=aW (B.neg aFZ)++aFK
def aHH:B:=(.cmp .ne (.app 83 (.cons (.app 44 (.cons (.lit 0) (.cons (.lit 0) (.cons (.lit 0) (.cons (.lit 65536) (.cons (.lit 65536) (.cons (.lit 65536) (.cons (.lit 65536) (.cons (.lit 0) .nil))))))))) (.cons (.lit 1) (.cons (.lit 1) .nil)))) (.lit 144))
def aFy:List B:=aW (B.neg aHH)++aHg
def aHz:B:=(.cmp .ne (.app 83 (.cons (.app 44 (.cons (.lit 0) (.cons (.lit 0) (.cons (.lit 0) (.cons (.lit 65536) (.cons (.lit 65536) (.cons (.lit 65536) (.cons (.lit 65536) (.cons (.lit 0) .nil))))))))) (.cons (.lit 2) (.cons (.lit 0) .nil)))) (.lit 128))
def aHI:List B:=aW (B.neg aHz)++aFy
def aF3:B:=(.cmp .ne (.app 83 (.cons (.app 44 (.cons (.lit 0) (.cons (.lit 0) (.cons (.lit 0) (.cons (.lit 65536) (.cons (.lit 65536) (.cons (.lit 65536) (.cons (.lit 65536) (.cons (.lit 0) .nil))))))))) (.cons (.lit 2) (.cons (.lit 1) .nil)))) (.lit 192))
def aHC:List B:=aW (B.neg aF3)++aHI
def aF7:B:=(.cmp .ne (.app 83 (.cons (.app 44 (.cons (.lit 0) (.cons (.lit 0) (.cons (.lit 0) (.cons (.lit 65536) (.cons (.lit 65536) (.cons (.lit 65536) (.cons (.lit 65536) (.cons (.lit 0) .nil))))))))) (.cons (.lit 3) (.cons (.lit 0) .nil)))) (.lit 216))
def aHu:List B:=aW (B.neg aF7)++aHC
def aFR:B:=(.cmp .ne (.app 83 (.cons (.app 44 (.cons (.lit 0) (.cons (.lit 0) (.cons (.lit 0) (.cons (.lit 65536) (.cons (.lit 65536) (.cons (.lit 65536) (.cons (.lit 65536) (.cons (.lit 0) .nil))))))))) (.cons (.lit 3) (.cons (.lit 1) .nil)))) (.lit 144))
def aG0:List B:=aW (B.neg aFR)++aHu
def aFW:B:=(.cmp .ne (.app 83 (.cons (.app 44 (.cons (.lit 0) (.cons (.lit 0) (.cons (.lit 0) (.cons (.lit 65536) (.cons (.lit 65536) (.cons (.lit 65536) (.cons (.lit 65536) (.cons (.lit 0) .nil))))))))) (.cons (.lit 4) (.cons (.lit 0) .nil)))) (.lit 256))
def aGx:List B:=aW (B.neg aFW)++aG0
def aFO:B:=(.cmp .ne (.app 83 (.cons (.app 44 (.cons (.lit 0) (.cons (.lit 0) (.cons (.lit 0) (.cons (.lit 65536) (.cons (.lit 65536) (.cons (.lit 65536) (.cons (.lit 65536) (.cons (.lit 0) .nil))))))))) (.cons (.lit 4) (.cons (.lit 1) .nil)))) (.lit 0))
def aG2:List B:=aW (B.neg aFO)++aGx
theorem aFc:aLq Try.prog aG2 = .ok (.tuple [(.agg []),(.bool (.lit true))]):=by kernel_rfl
end Go.Proofs.Ythiehfhphgkaeaa
namespace Go.Proofs.Ythiehfhphgkaeaa
open Go Go.RowKit Sx Wi
theorem aLf (a m:Int) (hm:0<m) (n:Int) (hn:n=m*m*m*a):Fx.near n (m*(m*m)*256)=Fx.near a 256:=by
 have e:=Fx.near_mul a 256 (m*m*m) (Int.mul_pos (Int.mul_pos hm hm) hm)
 rw[←e,hn]
 congr 1<;>grind
theorem aI1 (a b c d m:Int) (hm:0<m):pQ a b c d 0 m=Fx.near a 256:=aLf a m hm _ (by grind)
theorem zC (xs:List Int) (m:Int) (hm:0<m):∀ n a:Nat,a≤n→(hJ xs m n).getD a []=mX xs m a
 |0,a,h=>by
  have:a=0:=by omega
  subst this
  show [Fx.near (xs.getD 0 0) (1*256),Fx.near (xs.getD 1 0) (1*256)]=mX xs m ((0:Nat):Int)
  unfold mX
  rw[Int.natCast_zero,aI1 _ _ _ _ _ hm,aI1 _ _ _ _ _ hm]
  rfl
 |n+1,a,h=>by
  have hl:=fI xs m n
  show (hJ xs m n++[mX xs m ((n:Int)+1)]).getD a []=_
  rw[List.getD_eq_getElem?_getD]
  by_cases ha:a≤n
  ·rw[List.getElem?_append_left (by omega),←List.getD_eq_getElem?_getD]
   exact zC xs m hm n a ha
  ·have:a=n+1:=by omega
   subst this
   rw[List.getElem?_append_right (by omega),hl]
   simp
theorem aEq (k:IntKind):Lc.kNo k<8:=by cases k<;>decide
theorem aNz (k:IntKind) {xs:List Int} {i j:Int} (h0:0≤i) (h1:i≤cK xs):G (80+Lc.kNo k) [G 44 xs,i,j]=k.wrap ((mX xs (cK xs) i).getD j.toNat 0):=by
 have hp:=fH xs
 have e1:G 44 xs=Lc.enc (hJ xs (cK xs) (cK xs).toNat):=rfl
 have h8:=aEq k
 rw[e1,hZ _ _ (by omega) (by omega),Lc.fn_rd]
 unfold Lc.rd Lc.row
 rw[Lc.dec_enc,zC _ _ (by omega) _ _ (by omega),Int.toNat_of_nonneg h0]
theorem aMX (k:IntKind) (L:List (List Int)) (i j:Int):G (80+Lc.kNo k) [Lc.enc L,i,j]=k.wrap ((L.getD i.toNat []).getD j.toNat 0):=by
 have h8:=aEq k
 rw[hZ _ _ (by omega) (by omega),Lc.fn_rd]
 unfold Lc.rd Lc.row
 rw[Lc.dec_enc]
theorem aOz (a b:Int):G 91 [0,a,b]=Lc.enc [[a,b]]:=iP hZ [] [a,b]
theorem aOk (a b c d:Int):G 91 [G 91 [0,a,b],c,d]=Lc.enc [[a,b],[c,d]]:=by
 rw[aOz];exact iP hZ [[a,b]] [c,d]
theorem aN0 (a b c d e f:Int):G 91 [G 91 [G 91 [0,a,b],c,d],e,f]=Lc.enc [[a,b],[c,d],[e,f]]:=by
 rw[aOk];exact iP hZ [[a,b],[c,d]] [e,f]
theorem oI (i j v:Int) (h:IntKind.i64.wrap (([[G 2 [0,256],G 2 [0,256]],[G 2 [65536,256],G 2 [0,256]],[G 2 [65536,256],G 2 [65536,256]]].getD i.toNat []).getD j.toNat 0)=v):
  G 83 [G 91 [G 91 [G 91 [0,G 2 [0,256],G 2 [0,256]],G 2 [65536,256],G 2 [0,256]],G 2 [65536,256],G 2 [65536,256]],i,j]=v:=by
 rw[aN0];exact(aMX .i64 _ i j).trans h
theorem iL (i j v:Int) (h0:0≤i) (h1:i≤cK [0,0,0,65536,65536,65536,65536,0]) (h:IntKind.i64.wrap ((mX [0,0,0,65536,65536,65536,65536,0] (cK [0,0,0,65536,65536,65536,65536,0]) i).getD j.toNat 0)=v):
  G 83 [G 44 [0,0,0,65536,65536,65536,65536,0],i,j]=v:=(aNz .i64 h0 h1).trans h
theorem aE3:eT Try.prog G GB 11 aAX (eK []):=by
 refine dC (lp:=dP) (run:=aAf Try.prog) (fun _=>rfl) fits (dO trivial) eX (fun X hX hG=>aCv hX hG) (fun X hX hG fn c hf hc=>cQ) rfl ?_
 refine aQ (.cmp .ne (.app 83 (.cons (.app 91 (.cons (.app 91 (.cons (.app 91 (.cons (.lit 0) (.cons (.app 2 (.cons (.lit 0) (.cons (.lit 256) .nil))) (.cons (.app 2 (.cons (.lit 0) (.cons (.lit 256) .nil))) .nil)))) (.cons (.app 2 (.cons (.lit 65536) (.cons (.lit 256) .nil))) (.cons (.app 2 (.cons (.lit 0) (.cons (.lit 256) .nil))) .nil)))) (.cons (.app 2 (.cons (.lit 65536) (.cons (.lit 256) .nil))) (.cons (.app 2 (.cons (.lit 65536) (.cons (.lit 256) .nil))) .nil)))) (.cons (.lit 0) (.cons (.lit 0) .nil)))) (.lit 0)) (fun h0=>?_) (fun h0=>?_)
 ·skip
  refine bE ?_
  exfalso;simp only[nn,List.cons_append,List.nil_append,aY]at h0;with_reducible exact absurd (oI 0 0 0 (by decide)) h0
 refine aQ (.cmp .ne (.app 83 (.cons (.app 91 (.cons (.app 91 (.cons (.app 91 (.cons (.lit 0) (.cons (.app 2 (.cons (.lit 0) (.cons (.lit 256) .nil))) (.cons (.app 2 (.cons (.lit 0) (.cons (.lit 256) .nil))) .nil)))) (.cons (.app 2 (.cons (.lit 65536) (.cons (.lit 256) .nil))) (.cons (.app 2 (.cons (.lit 0) (.cons (.lit 256) .nil))) .nil)))) (.cons (.app 2 (.cons (.lit 65536) (.cons (.lit 256) .nil))) (.cons (.app 2 (.cons (.lit 65536) (.cons (.lit 256) .nil))) .nil)))) (.cons (.lit 0) (.cons (.lit 1) .nil)))) (.lit 0)) (fun h1=>?_) (fun h1=>?_)
 ·skip
  refine bE ?_
  exfalso;clear h0;simp only[nn,List.cons_append,List.nil_append,aY]at h1;with_reducible exact absurd (oI 0 1 0 (by decide)) h1
 refine aQ (.cmp .ne (.app 83 (.cons (.app 91 (.cons (.app 91 (.cons (.app 91 (.cons (.lit 0) (.cons (.app 2 (.cons (.lit 0) (.cons (.lit 256) .nil))) (.cons (.app 2 (.cons (.lit 0) (.cons (.lit 256) .nil))) .nil)))) (.cons (.app 2 (.cons (.lit 65536) (.cons (.lit 256) .nil))) (.cons (.app 2 (.cons (.lit 0) (.cons (.lit 256) .nil))) .nil)))) (.cons (.app 2 (.cons (.lit 65536) (.cons (.lit 256) .nil))) (.cons (.app 2 (.cons (.lit 65536) (.cons (.lit 256) .nil))) .nil)))) (.cons (.lit 1) (.cons (.lit 0) .nil)))) (.lit 256)) (fun h2=>?_) (fun h2=>?_)
 ·skip
  refine bE ?_
  exfalso;clear h0 h1;simp only[nn,List.cons_append,List.nil_append,aY]at h2;with_reducible exact absurd (oI 1 0 256 (by decide)) h2
 refine aQ (.cmp .ne (.app 83 (.cons (.app 91 (.cons (.app 91 (.cons (.app 91 (.cons (.lit 0) (.cons (.app 2 (.cons (.lit 0) (.cons (.lit 256) .nil))) (.cons (.app 2 (.cons (.lit 0) (.cons (.lit 256) .nil))) .nil)))) (.cons (.app 2 (.cons (.lit 65536) (.cons (.lit 256) .nil))) (.cons (.app 2 (.cons (.lit 0) (.cons (.lit 256) .nil))) .nil)))) (.cons (.app 2 (.cons (.lit 65536) (.cons (.lit 256) .nil))) (.cons (.app 2 (.cons (.lit 65536) (.cons (.lit 256) .nil))) .nil)))) (.cons (.lit 1) (.cons (.lit 1) .nil)))) (.lit 0)) (fun h3=>?_) (fun h3=>?_)
 ·skip
  refine bE ?_
  exfalso;clear h0 h1 h2;simp only[nn,List.cons_append,List.nil_append,aY]at h3;with_reducible exact absurd (oI 1 1 0 (by decide)) h3
 refine aQ (.cmp .ne (.app 83 (.cons (.app 91 (.cons (.app 91 (.cons (.app 91 (.cons (.lit 0) (.cons (.app 2 (.cons (.lit 0) (.cons (.lit 256) .nil))) (.cons (.app 2 (.cons (.lit 0) (.cons (.lit 256) .nil))) .nil)))) (.cons (.app 2 (.cons (.lit 65536) (.cons (.lit 256) .nil))) (.cons (.app 2 (.cons (.lit 0) (.cons (.lit 256) .nil))) .nil)))) (.cons (.app 2 (.cons (.lit 65536) (.cons (.lit 256) .nil))) (.cons (.app 2 (.cons (.lit 65536) (.cons (.lit 256) .nil))) .nil)))) (.cons (.lit 2) (.cons (.lit 0) .nil)))) (.lit 256)) (fun h4=>?_) (fun h4=>?_)
 ·skip
  refine bE ?_
  exfalso;clear h0 h1 h2 h3;simp only[nn,List.cons_append,List.nil_append,aY]at h4;with_reducible exact absurd (oI 2 0 256 (by decide)) h4
 refine aQ (.cmp .ne (.app 83 (.cons (.app 91 (.cons (.app 91 (.cons (.app 91 (.cons (.lit 0) (.cons (.app 2 (.cons (.lit 0) (.cons (.lit 256) .nil))) (.cons (.app 2 (.cons (.lit 0) (.cons (.lit 256) .nil))) .nil)))) (.cons (.app 2 (.cons (.lit 65536) (.cons (.lit 256) .nil))) (.cons (.app 2 (.cons (.lit 0) (.cons (.lit 256) .nil))) .nil)))) (.cons (.app 2 (.cons (.lit 65536) (.cons (.lit 256) .nil))) (.cons (.app 2 (.cons (.lit 65536) (.cons (.lit 256) .nil))) .nil)))) (.cons (.lit 2) (.cons (.lit 1) .nil)))) (.lit 256)) (fun h5=>?_) (fun h5=>?_)
 ·skip
  refine bE ?_
  exfalso;clear h0 h1 h2 h3 h4;simp only[nn,List.cons_append,List.nil_append,aY]at h5;with_reducible exact absurd (oI 2 1 256 (by decide)) h5
 refine aQ (.cmp .ne (.app 83 (.cons (.app 44 (.cons (.lit 0) (.cons (.lit 0) (.cons (.lit 0) (.cons (.lit 65536) (.cons (.lit 65536) (.cons (.lit 65536) (.cons (.lit 65536) (.cons (.lit 0) .nil))))))))) (.cons (.lit 0) (.cons (.lit 0) .nil)))) (.lit 0)) (fun h6=>?_) (fun h6=>?_)
 ·skip
  refine bE ?_
  exfalso;clear h0 h1 h2 h3 h4 h5;simp only[nn,List.cons_append,List.nil_append,aY]at h6;with_reducible exact absurd (iL 0 0 0 (by decide) (by decide) (by decide)) h6
 refine aQ (.cmp .ne (.app 83 (.cons (.app 44 (.cons (.lit 0) (.cons (.lit 0) (.cons (.lit 0) (.cons (.lit 65536) (.cons (.lit 65536) (.cons (.lit 65536) (.cons (.lit 65536) (.cons (.lit 0) .nil))))))))) (.cons (.lit 0) (.cons (.lit 1) .nil)))) (.lit 0)) (fun h7=>?_) (fun h7=>?_)
 ·skip
  refine bE ?_
  exfalso;clear h0 h1 h2 h3 h4 h5 h6;simp only[nn,List.cons_append,List.nil_append,aY]at h7;with_reducible exact absurd (iL 0 1 0 (by decide) (by decide) (by decide)) h7
 refine aQ (.cmp .ne (.app 83 (.cons (.app 44 (.cons (.lit 0) (.cons (.lit 0) (.cons (.lit 0) (.cons (.lit 65536) (.cons (.lit 65536) (.cons (.lit 65536) (.cons (.lit 65536) (.cons (.lit 0) .nil))))))))) (.cons (.lit 1) (.cons (.lit 0) .nil)))) (.lit 40)) (fun h8=>?_) (fun h8=>?_)
 ·skip
  refine bE ?_
  exfalso;clear h0 h1 h2 h3 h4 h5 h6 h7;simp only[nn,List.cons_append,List.nil_append,aY]at h8;with_reducible exact absurd (iL 1 0 40 (by decide) (by decide) (by decide)) h8
 refine aQ (.cmp .ne (.app 83 (.cons (.app 44 (.cons (.lit 0) (.cons (.lit 0) (.cons (.lit 0) (.cons (.lit 65536) (.cons (.lit 65536) (.cons (.lit 65536) (.cons (.lit 65536) (.cons (.lit 0) .nil))))))))) (.cons (.lit 1) (.cons (.lit 1) .nil)))) (.lit 144)) (fun h9=>?_) (fun h9=>?_)
 ·skip
  refine bE ?_
  exfalso;clear h0 h1 h2 h3 h4 h5 h6 h7 h8;simp only[nn,List.cons_append,List.nil_append,aY]at h9;with_reducible exact absurd (iL 1 1 144 (by decide) (by decide) (by decide)) h9
 refine aQ (.cmp .ne (.app 83 (.cons (.app 44 (.cons (.lit 0) (.cons (.lit 0) (.cons (.lit 0) (.cons (.lit 65536) (.cons (.lit 65536) (.cons (.lit 65536) (.cons (.lit 65536) (.cons (.lit 0) .nil))))))))) (.cons (.lit 2) (.cons (.lit 0) .nil)))) (.lit 128)) (fun h10=>?_) (fun h10=>?_)
 ·skip
  refine bE ?_
  exfalso;clear h0 h1 h2 h3 h4 h5 h6 h7 h8 h9;simp only[nn,List.cons_append,List.nil_append,aY]at h10;with_reducible exact absurd (iL 2 0 128 (by decide) (by decide) (by decide)) h10
 refine aQ (.cmp .ne (.app 83 (.cons (.app 44 (.cons (.lit 0) (.cons (.lit 0) (.cons (.lit 0) (.cons (.lit 65536) (.cons (.lit 65536) (.cons (.lit 65536) (.cons (.lit 65536) (.cons (.lit 0) .nil))))))))) (.cons (.lit 2) (.cons (.lit 1) .nil)))) (.lit 192)) (fun h11=>?_) (fun h11=>?_)
 ·skip
  refine bE ?_
  exfalso;clear h0 h1 h2 h3 h4 h5 h6 h7 h8 h9 h10;simp only[nn,List.cons_append,List.nil_append,aY]at h11;with_reducible exact absurd (iL 2 1 192 (by decide) (by decide) (by decide)) h11
 refine aQ (.cmp .ne (.app 83 (.cons (.app 44 (.cons (.lit 0) (.cons (.lit 0) (.cons (.lit 0) (.cons (.lit 65536) (.cons (.lit 65536) (.cons (.lit 65536) (.cons (.lit 65536) (.cons (.lit 0) .nil))))))))) (.cons (.lit 3) (.cons (.lit 0) .nil)))) (.lit 216)) (fun h12=>?_) (fun h12=>?_)
 ·skip
  refine bE ?_
  exfalso;clear h0 h1 h2 h3 h4 h5 h6 h7 h8 h9 h10 h11;simp only[nn,List.cons_append,List.nil_append,aY]at h12;with_reducible exact absurd (iL 3 0 216 (by decide) (by decide) (by decide)) h12
 refine aQ (.cmp .ne (.app 83 (.cons (.app 44 (.cons (.lit 0) (.cons (.lit 0) (.cons (.lit 0) (.cons (.lit 65536) (.cons (.lit 65536) (.cons (.lit 65536) (.cons (.lit 65536) (.cons (.lit 0) .nil))))))))) (.cons (.lit 3) (.cons (.lit 1) .nil)))) (.lit 144)) (fun h13=>?_) (fun h13=>?_)
 ·skip
  refine bE ?_
  exfalso;clear h0 h1 h2 h3 h4 h5 h6 h7 h8 h9 h10 h11 h12;simp only[nn,List.cons_append,List.nil_append,aY]at h13;with_reducible exact absurd (iL 3 1 144 (by decide) (by decide) (by decide)) h13
 refine aQ (.cmp .ne (.app 83 (.cons (.app 44 (.cons (.lit 0) (.cons (.lit 0) (.cons (.lit 0) (.cons (.lit 65536) (.cons (.lit 65536) (.cons (.lit 65536) (.cons (.lit 65536) (.cons (.lit 0) .nil))))))))) (.cons (.lit 4) (.cons (.lit 0) .nil)))) (.lit 256)) (fun h14=>?_) (fun h14=>?_)
 ·skip
  refine bE ?_
  exfalso;clear h0 h1 h2 h3 h4 h5 h6 h7 h8 h9 h10 h11 h12 h13;simp only[nn,List.cons_append,List.nil_append,aY]at h14;with_reducible exact absurd (iL 4 0 256 (by decide) (by decide) (by decide)) h14
 refine aQ (.cmp .ne (.app 83 (.cons (.app 44 (.cons (.lit 0) (.cons (.lit 0) (.cons (.lit 0) (.cons (.lit 65536) (.cons (.lit 65536) (.cons (.lit 65536) (.cons (.lit 65536) (.cons (.lit 0) .nil))))))))) (.cons (.lit 4) (.cons (.lit 1) .nil)))) (.lit 0)) (fun h15=>?_) (fun h15=>?_)
 ·skip
  refine bE ?_
  exfalso;clear h0 h1 h2 h3 h4 h5 h6 h7 h8 h9 h10 h11 h12 h13 h14;simp only[nn,List.cons_append,List.nil_append,aY]at h15;with_reducible exact absurd (iL 4 1 0 (by decide) (by decide) (by decide)) h15
 refine aP aFc ?_
 exact⟨rfl,trivial⟩
def tI:Ctx→List SV→aG→Res (SV × aG):=dT GB [] 0 (.lit true) aAX
theorem aIX {X:Ctx} {ρ:Nat→Int} (hX:X.Ok ρ) (hG:X.G=G):fR Try.prog X ρ GB 11 tI:=by
 obtain⟨XG,XI,XV,XF⟩:=X
 simp only at hG
 subst hG
 refine cU hX ?_
 intro xs ls hw hl _
 have hl':ls=[]:=List.length_eq_zero_iff.1 hl
 subst hl'
 rw[List.append_nil]
 have e8:=pR hw
 subst e8
 exact aE3
end Go.Proofs.Ythiehfhphgkaeaa
namespace Go.Proofs.Ythiehfhphgkaeaa
open Go Go.RowKit Sx
def pC (go:TypeId→Option (List CK)) (P:Program):List Field→Nat→Option (List CK)
 |[],_=>some []
 |f::fs,o=>if f.offset=o then match go f.type with
   |some a=>if a.length=P.cellsOf f.type then match pC go P fs (o+a.length)with
     |some b=>some (a++b)
     |none=>none
    else none
   |none=>none
  else none
def mD (P:Program):Nat→TypeId→Option (List CK)
 |0,_=>none
 |d+1,t=>match P.underlying t with
  |some .bool=>some [.bool]
  |some (.int k)=>some [.int k]
  |some (.struct fs)=>match pC (mD P d) P fs.toList 0 with
   |some a=>if a.length=P.cellsOf t then some a else none
   |none=>none
  |some (.array n e)=>match mD P d e with
   |some a=>if a.length=P.cellsOf e∧n*a.length=P.cellsOf t then some (List.replicate n a).flatten else none
   |none=>none
  |_=>none
theorem yU {go:TypeId→Option (List CK)} {P:Program}:∀ {fs:List Field} {o:Nat} {ks:List CK},pC go P fs o=some ks→∀ (i:Nat) (g:Field),fs[i]?=some g→o≤g.offset
 |[],o,ks,h,i,g,e=>by simp at e
 |f::fs,o,ks,h,i,g,e=>by
  unfold pC at h
  split at h
  case isFalse=>cases h
  rename_i ho
  split at h
  case h_2=>cases h
  split at h
  case isFalse=>cases h
  split at h
  case h_2=>cases h
  rename_i b hb
  cases i with
  |zero=>simp only[List.getElem?_cons_zero,Option.some.injEq]at e;subst e;omega
  |succ i=>have:=yU hb i g (by simpa using e);omega
def qU:CK→Int→Prop
 | .int k,n=>k.min≤n∧n≤k.max
 | .bool,n=>n=0∨n=1
def Kin (ks:List CK) (cs:List Value):Prop:=cs.length=ks.length∧∀ (i:Nat) (k:CK),ks[i]?=some k→∃ n,cs[i]?=some (k.mk n)∧qU k n
theorem Kin.append {a b:List CK} {xs ys:List Value} (h:Kin a xs) (g:Kin b ys):Kin (a++b) (xs++ys):=by
 refine⟨by rw[List.length_append,List.length_append,h.1,g.1],fun i k e=>?_⟩
 rcases Nat.lt_or_ge i a.length with q|q
 ·rw[List.getElem?_append_left q]at e
  rw[List.getElem?_append_left (by rw[h.1];exact q)]
  exact h.2 i k e
 ·rw[List.getElem?_append_right q]at e
  rw[List.getElem?_append_right (by rw[h.1];exact q),h.1]
  exact g.2 _ k e
theorem Kin.row {ks:List CK} {cs:List Value} (h:Kin ks cs):∃ r:List Int,r.length=ks.length∧cs=dS ks r∧∀ (i:Nat) (k:CK),ks[i]?=some k→qU k (r.getD i 0):=by
 classical
 obtain⟨f,hf⟩:∃ f:Nat→Int,∀ (i:Nat) (k:CK),ks[i]?=some k→cs[i]?=some (k.mk (f i))∧qU k (f i):=by
  refine⟨fun i=>if q:∃ n,∀ k,ks[i]?=some k→cs[i]?=some (k.mk n)∧qU k n then q.choose else 0,fun i k e=>?_⟩
  have q:∃ n,∀ k,ks[i]?=some k→cs[i]?=some (k.mk n)∧qU k n:=by
   obtain⟨n,h1,h2⟩:=h.2 i k e
   refine⟨n,fun k' e'=>?_⟩
   rw[e]at e';cases e'
   exact⟨h1,h2⟩
  simp only[dif_pos q]
  exact q.choose_spec k e
 have hg:∀ i,i<ks.length→((List.range ks.length).map f).getD i 0=f i:=fun i hi=>by simp [List.getD,hi]
 refine⟨(List.range ks.length).map f,by simp,?_,fun i k e=>?_⟩
 ·apply List.ext_getElem?
  intro i
  unfold dS
  rw[List.getElem?_map,List.getElem?_zipIdx]
  cases e:ks[i]? with
  |none=>
   have:=List.getElem?_eq_none_iff.1 e
   rw[List.getElem?_eq_none (show cs.length≤i by rw[h.1];exact this)];rfl
  |some k=>
   rw[(hf i k e).1]
   simp only[Option.map_some,Nat.zero_add]
   rw[hg i (List.getElem?_eq_some_iff.1 e).1]
 ·rw[hg i (List.getElem?_eq_some_iff.1 e).1];exact(hf i k e).2
theorem aJ8 {k:IntKind} {n:Int} (h:(Lit.int k n).wf=true):CK.mk (.int k) n = .int k n∧qU (.int k) n:=by
 simp only[Lit.wf,Bool.and_eq_true,decide_eq_true_eq]at h
 refine⟨?_,h⟩
 show Value.int k (k.wrap n)=_
 rw[aAn k n h.1 h.2]
section
variable {H:Type} {enc:TypeId × Value→H} {P:Program} {w:World} {base:Nat} {spare:Nat→Bool} {held:Bool}
theorem yY {go:TypeId→Option (List CK)} {fuel:Nat} (hgo:∀ t ks cs x,go t=some ks→DataW.trod enc P w base spare held fuel t cs=some x→Kin ks cs):∀ (fs:List Field) (o:Nat) (ks:List CK) (cs:List Value),pC go P fs o=some ks→
  (∀ (i:Nat) (f:Field),fs[i]?=some f→∃ x,DataW.trod enc P w base spare held fuel f.type ((cs.drop (f.offset-o)).take (P.cellsOf f.type))=some x)→cs.length=ks.length→Kin ks cs
 |[],o,ks,cs,hk,h,hl=>by
  simp only[pC,Option.some.injEq]at hk
  subst hk
  exact⟨hl,fun i k e=>by simp at e⟩
 |f::fs,o,ks,cs,hk,h,hl=>by
  unfold pC at hk
  split at hk
  case isFalse=>cases hk
  rename_i ho
  split at hk
  case h_2=>cases hk
  rename_i a ha
  split at hk
  case isFalse=>cases hk
  rename_i hal
  split at hk
  case h_2=>cases hk
  rename_i b hb
  cases hk
  obtain⟨x,hx⟩:=h 0 f rfl
  rw[ho,Nat.sub_self,List.drop_zero,←hal]at hx
  have k1:=hgo f.type a _ x ha hx
  rw[List.length_append]at hl
  have k2:=yY hgo fs (o+a.length) b (cs.drop a.length) hb (by
   intro i g hg
   obtain⟨y,hy⟩:=h (i+1) g (by simpa using hg)
   refine⟨y,?_⟩
   rw[List.drop_drop]
   have hge:o+a.length≤g.offset:=yU hb i g hg
   rw[show a.length+(g.offset-(o+a.length))=g.offset-o by omega]
   exact hy) (by rw[List.length_drop];omega)
  have:=Kin.append k1 k2
  rwa [List.take_append_drop]at this
theorem vX:∀ (d:Nat) (t:TypeId) (ks:List CK) (fuel:Nat) (cs:List Value) (x:DataW H × List MemPlace),mD P d t=some ks→DataW.trod enc P w base spare held fuel t cs=some x→Kin ks cs
 |0,t,ks,fuel,cs,x,hk,h=>by simp [mD]at hk
 |d+1,t,ks,fuel,cs,x,hk,h=>by
  unfold mD at hk
  split at hk
  ·rename_i hu
   cases hk
   obtain⟨b,rfl,_⟩:=DataW.trod_bool hu h
   refine⟨rfl,fun i k e=>?_⟩
   match i,e with
   |0,e=>
    cases e
    exact⟨if b then 1 else 0,by cases b<;>rfl,by cases b;exact .inl rfl;exact .inr rfl⟩
  ·rename_i k0 hu
   cases hk
   obtain⟨n,rfl,_,hw⟩:=DataW.trod_int hu h
   refine⟨rfl,fun i k e=>?_⟩
   match i,e with
   |0,e=>
    cases e
    exact⟨n,by rw[(aJ8 hw).1];rfl,(aJ8 hw).2⟩
  ·rename_i fs hu
   split at hk
   case h_2=>cases hk
   rename_i a ha
   split at hk
   case isFalse=>cases hk
   rename_i hl
   cases hk
   obtain⟨xs,n,rfl,_,hcl,hxl,hf⟩:=DataW.trod_struct hu h
   have:=yY (fun t ks cs x=>vX d t ks n cs x) fs.toList 0 ks (cs.drop 0) ha (by
    intro i f hfi
    have e:=hf i f (by simpa using hfi)
    have hi:i<xs.length:=by rw[hxl];have:=(List.getElem?_eq_some_iff.1 hfi).1;simpa using this
    refine⟨xs[i],?_⟩
    rw[List.drop_zero,Nat.sub_zero,e];simp [hi]) (by rw[List.drop_zero,hcl,hl])
   simpa using this
  ·rename_i n e hu
   split at hk
   case h_2=>cases hk
   rename_i a ha
   split at hk
   case isFalse=>cases hk
   rename_i hl
   cases hk
   obtain⟨xs,m,rfl,_,hcl,hxl,hf⟩:=DataW.trod_array hu h
   have key:∀ j,j≤n→Kin (List.replicate j a).flatten (cs.take (j*a.length)):=by
    intro j
    induction j with
    |zero=>intro _;exact⟨by simp,fun i k e=>by simp at e⟩
    |succ j ih=>
     intro hj
     have e1:=hf j (by omega)
     rw[←hl.1]at e1
     have k1:=vX d e a m _ xs[j] ha (by rw[e1];simp [hxl,show j<n by omega])
     have e2:cs.take ((j+1)*a.length)=cs.take (j*a.length)++(cs.drop (j*a.length)).take a.length:=by
      rw[Nat.succ_mul,List.take_add]
     rw[e2,List.replicate_succ',List.flatten_append]
     simpa using Kin.append (ih (by omega)) k1
   have:=key n (Nat.le_refl _)
   rw[hl.2,←hcl,List.take_length]at this
   exact this
  ·cases hk
end
theorem aFP {H:Type} {enc:TypeId × Value→H} {P:Program} {W:World} {base base' d0:Nat} {spare:Nat→Bool} {held:Bool} {t e:TypeId} {v:Value} {d:DataW H} {p:List MemPlace} (ks:List CK)
  (hu:P.underlying t=some (.slice e)) (hk:mD P d0 e=some ks) (hce:ks.length=P.cellsOf e) (hpos:0<ks.length)
  (hok:Value.okWide P W .any base t v) (htr:DataW.Trod enc P W base' spare held t v d p):
  ∃ (b:Sx.Loc) (L:List (List Int)),v=(if b.nil then .slice none 0 0 else .slice (some ⟨b.blk,b.base,none⟩) L.length b.cap)∧(b.nil=true→L=[]∧b.cap=0)∧L.length≤b.cap∧L.length≤9223372036854775807∧(b.nil=true∨b.blk<W.heap.size)∧
   (∀ r,r ∈ L→r.length=ks.length∧∀ (i:Nat) (k:CK),ks[i]?=some k→qU k (r.getD i 0))∧jZ b W.heap[b.blk]? [aLe ks L true]∧b.sub=bT:=by
 obtain⟨fuel,htr⟩:=htr
 have hvs:∃ a len cap,v = .slice a len cap:=Go.WideShapes.okWide_slice hu hok
 obtain⟨a0,len0,cap0,rfl⟩:=hvs
 rcases DataW.trod_slice hu htr with⟨h,_⟩|⟨a,len,cap,elems,rest,n,_,h,_,hb,hl,hc,hel,hrd,_⟩
 ·have h:a0=none∧len0=0∧cap0=0:=by simpa [Value.cells]using h
  obtain⟨rfl,rfl,rfl⟩:=h
  refine⟨⟨0,0,true,0,bT⟩,[],rfl,fun _=>⟨rfl,rfl⟩,by simp,by simp,.inl rfl,(fun r hr=>nomatch hr),?_,rfl⟩
  exact⟨_,ks.length,true,rfl,hpos,.inl ⟨rfl,rfl⟩⟩
 ·have h:a0=some a∧len0=len∧cap0=cap:=by simpa [Value.cells]using h
  obtain⟨rfl,rfl,rfl⟩:=h
  have hsp:a.spot=none∧∃ cs T fz,W.heap[a.block]?=some (.cells cs T fz):=by
   unfold Value.okWide at hok
   rw[hu]at hok
   simp only at hok
   unfold Cell.okWide at hok
   rw[hu]at hok
   simp only at hok
   unfold Cell.ok at hok
   rw[hu]at hok
   simp only at hok
   obtain⟨_,_,_,h2,row,cells,h3,_⟩:=hok
   refine⟨h2,?_⟩
   unfold World.shape? at h3
   split at h3
   ·exact⟨_,_,_,by assumption⟩
   ·cases h3
  obtain⟨ablk,aoff,aspot⟩:=a
  obtain⟨rfl,ccs,cT,cfz,hcc⟩:=hsp
  simp only at hcc hb
  have hlt:ablk<W.heap.size:=(Array.getElem?_eq_some_iff.1 hcc).1
  have one:∀ i,i<len0→∃ r:List Int,(r.length=ks.length∧∀ (j:Nat) (k:CK),ks[j]?=some k→qU k (r.getD j 0))∧∀ j u,(dS ks r)[j]?=some u→W.cell? ⟨ablk,aoff+(i*ks.length+j),none⟩=some u:=by
   intro i hi
   have h1:=hrd i hi
   have h2:elems[i]?=some elems[i]:=by simp [hel,hi]
   rw[h2,Option.bind_eq_some_iff]at h1
   obtain⟨cs,h3,h4⟩:=h1
   have h5:=vX d0 e ks n cs _ hk h4
   obtain⟨r,r1,r2,r3⟩:=h5.row
   refine⟨r,⟨r1,r3⟩,fun j u hu=>?_⟩
   rw[←r2]at hu
   unfold World.cells? at h3
   split at h3
   case isFalse=>cases h3
   have hj:j<P.cellsOf e:=by
    have:=(List.getElem?_eq_some_iff.1 hu).1
    rw[h5.1,hce]at this;exact this
   have h6:=mapM_some_get h3 j j (by simp [hj])
   rw[hu]at h6
   rw[←h6,bJ,bJ,hce,Nat.add_assoc]
  classical
  obtain⟨f,hf⟩:∃ f:Nat→List Int,∀ i,i<len0→((f i).length=ks.length∧∀ (j:Nat) (k:CK),ks[j]?=some k→qU k ((f i).getD j 0))∧∀ j u,(dS ks (f i))[j]?=some u→W.cell? ⟨ablk,aoff+(i*ks.length+j),none⟩=some u:=by
   refine⟨fun i=>if q:i<len0 then (one i q).choose else [],fun i hi=>?_⟩
   simp only[dif_pos hi]
   exact(one i hi).choose_spec
  obtain⟨L,hL⟩:∃ L,L=(List.range len0).map f:=⟨_,rfl⟩
  have hLl:L.length=len0:=by rw[hL];simp
  have hmem:∀ r,r ∈ L→∃ i,i<len0∧r=f i:=by
   intro r hr
   rw[hL]at hr
   obtain⟨i,hi,rfl⟩:=List.mem_map.1 hr
   exact⟨i,by simpa using hi,rfl⟩
  refine⟨⟨ablk,cap0,false,aoff,bT⟩,L,by rw[hLl];rfl,(fun q=>by cases q),by rw[hLl];exact hl,by rw[hLl];unfold maxLen at hc;omega,.inr hlt,fun r hr=>?_,?_,rfl⟩
  ·obtain⟨i,hi,rfl⟩:=hmem r hr
   exact(hf i hi).1
  ·refine⟨_,ks.length,true,rfl,hpos,.inr ⟨rfl,?_⟩⟩
   have hcell:∀ i u,(aH ks L)[i]?=some u→W.cell? ⟨ablk,aoff+i,none⟩=some u:=by
    intro i u hi
    have hlt2:=(List.getElem?_eq_some_iff.1 hi).1
    rw[aU,hLl]at hlt2
    have hq:i / ks.length<len0:=Nat.div_lt_of_lt_mul (by rw[Nat.mul_comm];exact hlt2)
    have hm:i % ks.length<ks.length:=Nat.mod_lt _ hpos
    have e0:i=i / ks.length*ks.length+i % ks.length:=by rw[Nat.mul_comm];exact(Nat.div_add_mod i ks.length).symm
    have e1:(aH ks L)[i / ks.length*ks.length+i % ks.length]?=some ((ks[i % ks.length]).mk ((L.getD (i / ks.length) []).getD (i % ks.length) 0)):=dX (by simp [hm]) L _ (by rw[hLl];exact hq)
    rw[←e0,hi]at e1
    have e2:L.getD (i / ks.length) []=f (i / ks.length):=by rw[hL];simp [List.getD,hq]
    have e3:(dS ks (f (i / ks.length)))[i % ks.length]?=some ((ks[i % ks.length]).mk ((f (i / ks.length)).getD (i % ks.length) 0)):=by
     unfold dS
     rw[List.getElem?_map,List.getElem?_zipIdx]
     simp [hm]
    rw[e2,←e3]at e1
    have:=(hf _ hq).2 _ u e1.symm
    rwa [←e0]at this
   refine⟨ccs,cT,cfz,hcc,fun i u hi=>?_⟩
   have:=hcell i u hi
   simpa [World.cell?,hcc]using this
theorem aGh {G:Nat→List Int→Int} {ρ:Nat→Int} {W:World} (vs:List (Sx.Loc × List SV)) (h:∀ q,q ∈ vs→(q.1.nil=true∨q.1.blk<W.heap.size)∧q.1.sub=bT∧∃ us,jZ q.1 W.heap[q.1.blk]? us∧SV.RL G ρ (fun _=>none) q.2 us):
  RelW G ρ [] (fun id=>(vs[id]?).map (·.1)) (vs.map fun q=>some (q.2,bA)) W:=by
 have hvis:∀ id,¬fV (vs.map fun q=>(some (q.2,bA):gO)) id:=by
  rintro id ⟨q,hq,hv⟩
  rw[List.getElem?_map]at hq
  cases e:vs[id]? with
  |none=>rw[e]at hq;cases hq
  |some p=>
   rw[e]at hq
   have:q=(p.2,bA):=by cases hq;rfl
   rw[this]at hv
   exact absurd hv (show ¬vw bA=false by decide)
 have get:∀ (id:Nat) (b:Sx.Loc),(vs[id]?).map (fun q:Sx.Loc × List SV=>q.1)=some b→∃ q:Sx.Loc × List SV,vs[id]?=some q∧q.1=b:=by
  intro id b e
  cases e2:vs[id]? with
  |none=>rw[e2]at e;cases e
  |some p=>rw[e2]at e;exact⟨p,rfl,by cases e;rfl⟩
 refine⟨fun id b e=>?_,fun i j b c _ _ _ _ _ vi _=>absurd vi (hvis i),fun id cs T e=>?_,(fun p hp=>nomatch hp),fun id cs T b _ _ _ _ j c _ _ _ vj=>absurd vj (hvis j),fun id b k us e z=>?_⟩
 ·obtain⟨q,hq,rfl⟩:=get id b e
  exact⟨by rw[List.length_map];exact(List.getElem?_eq_some_iff.1 hq).1,(h q (List.mem_of_getElem? hq)).1⟩
 ·rw[List.getElem?_map]at e
  cases e2:vs[id]? with
  |none=>rw[e2]at e;cases e
  |some p=>
   rw[e2]at e
   cases e
   obtain⟨_,_,us,h1,h2⟩:=h p (List.mem_of_getElem? e2)
   exact⟨p.1,us,rfl,(iJ (by decide)).2 h1,SV.RL_mono (fun _ _ z=>by cases z) _ _ h2⟩
 ·obtain⟨q,hq,rfl⟩:=get id b e
  rw[(h q (List.mem_of_getElem? hq)).2.1]at z
  cases z
theorem aLT {G:Nat→List Int→Int} {ρ:Nat→Int} {α:aR} {ks:List CK} {L:List (List Int)} {C n:E} (h1:C.den G ρ=Lc.enc L) (h2:n.den G ρ=L.length):SV.RL G ρ α [.vec ks C n true] [aLe ks L true]:=by
 refine aV ?_ aZ
 simp only[SV.R]
 rw[h1,Lc.dec_enc,h2]
 exact⟨rfl,rfl⟩
theorem aJ9 {G:Nat→List Int→Int} {ρ:Nat→Int} {α:aR} {id:Nat} {b:Sx.Loc} {L:List (List Int)} {n:E} {v:Value} (ha:α id=some b) (hn:n.den G ρ=L.length)
  (hv:v=(if b.nil then .slice none 0 0 else .slice (some ⟨b.blk,b.base,none⟩) L.length b.cap)) (hnil:b.nil=true→L=[]∧b.cap=0) (hle:L.length≤b.cap):SV.R G ρ α (.own id n none) v:=by
 simp only[SV.R]
 refine⟨b,ha,by omega,?_,fun q=>?_,by omega,fun e he _=>by cases he⟩
 ·rw[hn,Int.toNat_natCast];exact hv
 ·obtain⟨q1,q2⟩:=hnil q
  exact⟨by rw[hn,q1];rfl,q2⟩
theorem aLj {P:Program} {G:Nat→List Int→Int} {f:FuncId} {F:FunS} {ρ:Nat→Int} {W:World} {vals:List Value} {α:aR} (hF:eT P G [] f F ρ) (hW:RelW G ρ [] α F.H W) (hvis:∀ id,¬fV F.H id) (hv:SV.RL G ρ α F.args vals) (hb:F.b = .lit true) (hs:F.s1 = .bool (.lit true)):
  Calls P f vals.toArray W (fun e w'=>e = .returned (.bool true)∧Below W.heap.size W w'):=by
 obtain⟨_,hc⟩:=hF α W vals hW hv
 refine hc.mono ?_
 rintro e w' ⟨v,α',r,hr,rfl,rv,_,x⟩
 rw[hb]at hr
 have hr:r=true:=hr.symm
 subst hr
 rw[hs]at rv
 simp only[if_true,SV.R,B.den]at rv
 subst rv
 exact⟨rfl,x.os,x.tape,x.output,x.size,fun k hk=>x.hid k hk (fun id b _ _ _=>hvis id)⟩
theorem aAV (l:List (List SV)):∀ id,¬fV (l.map fun q=>(some (q,bA):gO)) id:=by
 rintro id ⟨q,hq,hv⟩
 rw[List.getElem?_map]at hq
 cases e:l[id]? with
 |none=>rw[e]at hq;cases hq
 |some p=>
  rw[e]at hq
  have:q=(p,bA):=by cases hq;rfl
  rw[this]at hv
  exact absurd hv (show ¬vw bA=false by decide)
end Go.Proofs.Ythiehfhphgkaeaa
