/- What is proved: the run of a function over its ways,and what is known on each. No condition. -/
import Derived.Test.YthiehfhphgkaeaaQg6
import Derived.Test.YthiehfhphgkaeaaQg3
import Derived.Test.YthiehfhphgkaeaaProg
import Derived.Test.YthiehfhphgkaeaaQa1
set_option linter.unusedSimpArgs false
set_option linter.unusedVariables false
set_option maxRecDepth 100000
namespace Go.Proofs.Ythiehfhphgkaeaa
open Go Go.RowKit Sx Wi
def aEI (P:Program) (fs:List B):Res SV:=bY G GI [((-4503599627370496),4503599627370496),(1,262144)] fs (fun X=>aBg P X GB aLL 4000 29 [(.int .i64 (.var 0)),(.int .i64 (.var 1))])
def aJV:List B:=[]
theorem aK4:aEI Try.prog aJV = .ok (.int .i64 (.app 2 (.cons (.var 0) (.cons (.op .mul (.var 1) (.lit 256)) .nil)))):=by kernel_rfl
end Go.Proofs.Ythiehfhphgkaeaa
set_option maxRecDepth 100000
namespace Go.Proofs.Ythiehfhphgkaeaa
open Go Go.RowKit Sx Wi
def eW (P:Program) (fs:List B):Res SV:=bY G GI [((-2147483648),2147483647),((-2147483648),2147483647),((-2147483648),2147483647),((-2147483648),2147483647),((-2147483648),2147483647),((-2147483648),2147483647),((-2147483648),2147483647),((-2147483648),2147483647)] fs (fun X=>aBg P X GB aLL 4000 24 [(.agg [(.int .i64 (.var 0)),(.int .i64 (.var 1)),(.int .i64 (.var 2)),(.int .i64 (.var 3)),(.int .i64 (.var 4)),(.int .i64 (.var 5)),(.int .i64 (.var 6)),(.int .i64 (.var 7))])])
def wA:List B:=[]
def aCa:B:=(.cmp .lt (.lit 32768) (.op .mul (.lit 3) (.op .max (.op .max (.op .max (.op .max (.op .max (.op .max (.op .max (.op .max (.lit 0) (.op .add (.op .sub (.var 0) (.op .mul (.lit 2) (.var 2))) (.var 4))) (.op .sub (.lit 0) (.op .add (.op .sub (.var 0) (.op .mul (.lit 2) (.var 2))) (.var 4)))) (.op .add (.op .sub (.var 1) (.op .mul (.lit 2) (.var 3))) (.var 5))) (.op .sub (.lit 0) (.op .add (.op .sub (.var 1) (.op .mul (.lit 2) (.var 3))) (.var 5)))) (.op .add (.op .sub (.var 2) (.op .mul (.lit 2) (.var 4))) (.var 6))) (.op .sub (.lit 0) (.op .add (.op .sub (.var 2) (.op .mul (.lit 2) (.var 4))) (.var 6)))) (.op .add (.op .sub (.var 3) (.op .mul (.lit 2) (.var 5))) (.var 7))) (.op .sub (.lit 0) (.op .add (.op .sub (.var 3) (.op .mul (.lit 2) (.var 5))) (.var 7))))))
def uQ:List B:=aW aCa++wA
def aB0:B:=(.cmp .lt (.lit 131072) (.op .mul (.lit 3) (.op .max (.op .max (.op .max (.op .max (.op .max (.op .max (.op .max (.op .max (.lit 0) (.op .add (.op .sub (.var 0) (.op .mul (.lit 2) (.var 2))) (.var 4))) (.op .sub (.lit 0) (.op .add (.op .sub (.var 0) (.op .mul (.lit 2) (.var 2))) (.var 4)))) (.op .add (.op .sub (.var 1) (.op .mul (.lit 2) (.var 3))) (.var 5))) (.op .sub (.lit 0) (.op .add (.op .sub (.var 1) (.op .mul (.lit 2) (.var 3))) (.var 5)))) (.op .add (.op .sub (.var 2) (.op .mul (.lit 2) (.var 4))) (.var 6))) (.op .sub (.lit 0) (.op .add (.op .sub (.var 2) (.op .mul (.lit 2) (.var 4))) (.var 6)))) (.op .add (.op .sub (.var 3) (.op .mul (.lit 2) (.var 5))) (.var 7))) (.op .sub (.lit 0) (.op .add (.op .sub (.var 3) (.op .mul (.lit 2) (.var 5))) (.var 7))))))
def xS:List B:=aW aB0++uQ
def aBD:B:=(.cmp .lt (.lit 524288) (.op .mul (.lit 3) (.op .max (.op .max (.op .max (.op .max (.op .max (.op .max (.op .max (.op .max (.lit 0) (.op .add (.op .sub (.var 0) (.op .mul (.lit 2) (.var 2))) (.var 4))) (.op .sub (.lit 0) (.op .add (.op .sub (.var 0) (.op .mul (.lit 2) (.var 2))) (.var 4)))) (.op .add (.op .sub (.var 1) (.op .mul (.lit 2) (.var 3))) (.var 5))) (.op .sub (.lit 0) (.op .add (.op .sub (.var 1) (.op .mul (.lit 2) (.var 3))) (.var 5)))) (.op .add (.op .sub (.var 2) (.op .mul (.lit 2) (.var 4))) (.var 6))) (.op .sub (.lit 0) (.op .add (.op .sub (.var 2) (.op .mul (.lit 2) (.var 4))) (.var 6)))) (.op .add (.op .sub (.var 3) (.op .mul (.lit 2) (.var 5))) (.var 7))) (.op .sub (.lit 0) (.op .add (.op .sub (.var 3) (.op .mul (.lit 2) (.var 5))) (.var 7))))))
def wT:List B:=aW aBD++xS
def aBc:B:=(.cmp .lt (.lit 2097152) (.op .mul (.lit 3) (.op .max (.op .max (.op .max (.op .max (.op .max (.op .max (.op .max (.op .max (.lit 0) (.op .add (.op .sub (.var 0) (.op .mul (.lit 2) (.var 2))) (.var 4))) (.op .sub (.lit 0) (.op .add (.op .sub (.var 0) (.op .mul (.lit 2) (.var 2))) (.var 4)))) (.op .add (.op .sub (.var 1) (.op .mul (.lit 2) (.var 3))) (.var 5))) (.op .sub (.lit 0) (.op .add (.op .sub (.var 1) (.op .mul (.lit 2) (.var 3))) (.var 5)))) (.op .add (.op .sub (.var 2) (.op .mul (.lit 2) (.var 4))) (.var 6))) (.op .sub (.lit 0) (.op .add (.op .sub (.var 2) (.op .mul (.lit 2) (.var 4))) (.var 6)))) (.op .add (.op .sub (.var 3) (.op .mul (.lit 2) (.var 5))) (.var 7))) (.op .sub (.lit 0) (.op .add (.op .sub (.var 3) (.op .mul (.lit 2) (.var 5))) (.var 7))))))
def vG:List B:=aW aBc++wT
def aCP:B:=(.cmp .lt (.lit 8388608) (.op .mul (.lit 3) (.op .max (.op .max (.op .max (.op .max (.op .max (.op .max (.op .max (.op .max (.lit 0) (.op .add (.op .sub (.var 0) (.op .mul (.lit 2) (.var 2))) (.var 4))) (.op .sub (.lit 0) (.op .add (.op .sub (.var 0) (.op .mul (.lit 2) (.var 2))) (.var 4)))) (.op .add (.op .sub (.var 1) (.op .mul (.lit 2) (.var 3))) (.var 5))) (.op .sub (.lit 0) (.op .add (.op .sub (.var 1) (.op .mul (.lit 2) (.var 3))) (.var 5)))) (.op .add (.op .sub (.var 2) (.op .mul (.lit 2) (.var 4))) (.var 6))) (.op .sub (.lit 0) (.op .add (.op .sub (.var 2) (.op .mul (.lit 2) (.var 4))) (.var 6)))) (.op .add (.op .sub (.var 3) (.op .mul (.lit 2) (.var 5))) (.var 7))) (.op .sub (.lit 0) (.op .add (.op .sub (.var 3) (.op .mul (.lit 2) (.var 5))) (.var 7))))))
def wD:List B:=aW aCP++vG
def aB1:B:=(.cmp .lt (.lit 33554432) (.op .mul (.lit 3) (.op .max (.op .max (.op .max (.op .max (.op .max (.op .max (.op .max (.op .max (.lit 0) (.op .add (.op .sub (.var 0) (.op .mul (.lit 2) (.var 2))) (.var 4))) (.op .sub (.lit 0) (.op .add (.op .sub (.var 0) (.op .mul (.lit 2) (.var 2))) (.var 4)))) (.op .add (.op .sub (.var 1) (.op .mul (.lit 2) (.var 3))) (.var 5))) (.op .sub (.lit 0) (.op .add (.op .sub (.var 1) (.op .mul (.lit 2) (.var 3))) (.var 5)))) (.op .add (.op .sub (.var 2) (.op .mul (.lit 2) (.var 4))) (.var 6))) (.op .sub (.lit 0) (.op .add (.op .sub (.var 2) (.op .mul (.lit 2) (.var 4))) (.var 6)))) (.op .add (.op .sub (.var 3) (.op .mul (.lit 2) (.var 5))) (.var 7))) (.op .sub (.lit 0) (.op .add (.op .sub (.var 3) (.op .mul (.lit 2) (.var 5))) (.var 7))))))
def aKa:List B:=aW aB1++wD
def aIg:List B:=aW (B.neg aB1)++wD
def aK0:List B:=aW (B.neg aCP)++vG
def aIN:List B:=aW (B.neg aBc)++wT
def aF4:List B:=aW (B.neg aBD)++xS
def aHr:List B:=aW (B.neg aB0)++uQ
def aGs:List B:=aW (B.neg aCa)++wA
theorem aIS:eW Try.prog wA = .need (.cmp .lt (.lit 32768) (.op .mul (.lit 3) (.op .max (.op .max (.op .max (.op .max (.op .max (.op .max (.op .max (.op .max (.lit 0) (.op .add (.op .sub (.var 0) (.op .mul (.lit 2) (.var 2))) (.var 4))) (.op .sub (.lit 0) (.op .add (.op .sub (.var 0) (.op .mul (.lit 2) (.var 2))) (.var 4)))) (.op .add (.op .sub (.var 1) (.op .mul (.lit 2) (.var 3))) (.var 5))) (.op .sub (.lit 0) (.op .add (.op .sub (.var 1) (.op .mul (.lit 2) (.var 3))) (.var 5)))) (.op .add (.op .sub (.var 2) (.op .mul (.lit 2) (.var 4))) (.var 6))) (.op .sub (.lit 0) (.op .add (.op .sub (.var 2) (.op .mul (.lit 2) (.var 4))) (.var 6)))) (.op .add (.op .sub (.var 3) (.op .mul (.lit 2) (.var 5))) (.var 7))) (.op .sub (.lit 0) (.op .add (.op .sub (.var 3) (.op .mul (.lit 2) (.var 5))) (.var 7)))))):=by kernel_rfl
theorem aIx:eW Try.prog uQ = .need (.cmp .lt (.lit 131072) (.op .mul (.lit 3) (.op .max (.op .max (.op .max (.op .max (.op .max (.op .max (.op .max (.op .max (.lit 0) (.op .add (.op .sub (.var 0) (.op .mul (.lit 2) (.var 2))) (.var 4))) (.op .sub (.lit 0) (.op .add (.op .sub (.var 0) (.op .mul (.lit 2) (.var 2))) (.var 4)))) (.op .add (.op .sub (.var 1) (.op .mul (.lit 2) (.var 3))) (.var 5))) (.op .sub (.lit 0) (.op .add (.op .sub (.var 1) (.op .mul (.lit 2) (.var 3))) (.var 5)))) (.op .add (.op .sub (.var 2) (.op .mul (.lit 2) (.var 4))) (.var 6))) (.op .sub (.lit 0) (.op .add (.op .sub (.var 2) (.op .mul (.lit 2) (.var 4))) (.var 6)))) (.op .add (.op .sub (.var 3) (.op .mul (.lit 2) (.var 5))) (.var 7))) (.op .sub (.lit 0) (.op .add (.op .sub (.var 3) (.op .mul (.lit 2) (.var 5))) (.var 7)))))):=by kernel_rfl
theorem aIT:eW Try.prog xS = .need (.cmp .lt (.lit 524288) (.op .mul (.lit 3) (.op .max (.op .max (.op .max (.op .max (.op .max (.op .max (.op .max (.op .max (.lit 0) (.op .add (.op .sub (.var 0) (.op .mul (.lit 2) (.var 2))) (.var 4))) (.op .sub (.lit 0) (.op .add (.op .sub (.var 0) (.op .mul (.lit 2) (.var 2))) (.var 4)))) (.op .add (.op .sub (.var 1) (.op .mul (.lit 2) (.var 3))) (.var 5))) (.op .sub (.lit 0) (.op .add (.op .sub (.var 1) (.op .mul (.lit 2) (.var 3))) (.var 5)))) (.op .add (.op .sub (.var 2) (.op .mul (.lit 2) (.var 4))) (.var 6))) (.op .sub (.lit 0) (.op .add (.op .sub (.var 2) (.op .mul (.lit 2) (.var 4))) (.var 6)))) (.op .add (.op .sub (.var 3) (.op .mul (.lit 2) (.var 5))) (.var 7))) (.op .sub (.lit 0) (.op .add (.op .sub (.var 3) (.op .mul (.lit 2) (.var 5))) (.var 7)))))):=by kernel_rfl
theorem aJu:eW Try.prog wT = .need (.cmp .lt (.lit 2097152) (.op .mul (.lit 3) (.op .max (.op .max (.op .max (.op .max (.op .max (.op .max (.op .max (.op .max (.lit 0) (.op .add (.op .sub (.var 0) (.op .mul (.lit 2) (.var 2))) (.var 4))) (.op .sub (.lit 0) (.op .add (.op .sub (.var 0) (.op .mul (.lit 2) (.var 2))) (.var 4)))) (.op .add (.op .sub (.var 1) (.op .mul (.lit 2) (.var 3))) (.var 5))) (.op .sub (.lit 0) (.op .add (.op .sub (.var 1) (.op .mul (.lit 2) (.var 3))) (.var 5)))) (.op .add (.op .sub (.var 2) (.op .mul (.lit 2) (.var 4))) (.var 6))) (.op .sub (.lit 0) (.op .add (.op .sub (.var 2) (.op .mul (.lit 2) (.var 4))) (.var 6)))) (.op .add (.op .sub (.var 3) (.op .mul (.lit 2) (.var 5))) (.var 7))) (.op .sub (.lit 0) (.op .add (.op .sub (.var 3) (.op .mul (.lit 2) (.var 5))) (.var 7)))))):=by kernel_rfl
theorem aIr:eW Try.prog vG = .need (.cmp .lt (.lit 8388608) (.op .mul (.lit 3) (.op .max (.op .max (.op .max (.op .max (.op .max (.op .max (.op .max (.op .max (.lit 0) (.op .add (.op .sub (.var 0) (.op .mul (.lit 2) (.var 2))) (.var 4))) (.op .sub (.lit 0) (.op .add (.op .sub (.var 0) (.op .mul (.lit 2) (.var 2))) (.var 4)))) (.op .add (.op .sub (.var 1) (.op .mul (.lit 2) (.var 3))) (.var 5))) (.op .sub (.lit 0) (.op .add (.op .sub (.var 1) (.op .mul (.lit 2) (.var 3))) (.var 5)))) (.op .add (.op .sub (.var 2) (.op .mul (.lit 2) (.var 4))) (.var 6))) (.op .sub (.lit 0) (.op .add (.op .sub (.var 2) (.op .mul (.lit 2) (.var 4))) (.var 6)))) (.op .add (.op .sub (.var 3) (.op .mul (.lit 2) (.var 5))) (.var 7))) (.op .sub (.lit 0) (.op .add (.op .sub (.var 3) (.op .mul (.lit 2) (.var 5))) (.var 7)))))):=by kernel_rfl
theorem aKt:eW Try.prog wD = .need (.cmp .lt (.lit 33554432) (.op .mul (.lit 3) (.op .max (.op .max (.op .max (.op .max (.op .max (.op .max (.op .max (.op .max (.lit 0) (.op .add (.op .sub (.var 0) (.op .mul (.lit 2) (.var 2))) (.var 4))) (.op .sub (.lit 0) (.op .add (.op .sub (.var 0) (.op .mul (.lit 2) (.var 2))) (.var 4)))) (.op .add (.op .sub (.var 1) (.op .mul (.lit 2) (.var 3))) (.var 5))) (.op .sub (.lit 0) (.op .add (.op .sub (.var 1) (.op .mul (.lit 2) (.var 3))) (.var 5)))) (.op .add (.op .sub (.var 2) (.op .mul (.lit 2) (.var 4))) (.var 6))) (.op .sub (.lit 0) (.op .add (.op .sub (.var 2) (.op .mul (.lit 2) (.var 4))) (.var 6)))) (.op .add (.op .sub (.var 3) (.op .mul (.lit 2) (.var 5))) (.var 7))) (.op .sub (.lit 0) (.op .add (.op .sub (.var 3) (.op .mul (.lit 2) (.var 5))) (.var 7)))))):=by kernel_rfl
theorem aI2:eW Try.prog aKa = .ok (.int .i64 (.lit 6)):=by kernel_rfl
theorem aJd:eW Try.prog aIg = .ok (.int .i64 (.lit 5)):=by kernel_rfl
theorem aJi:eW Try.prog aK0 = .ok (.int .i64 (.lit 4)):=by kernel_rfl
theorem aI7:eW Try.prog aIN = .ok (.int .i64 (.lit 3)):=by kernel_rfl
theorem aHw:eW Try.prog aF4 = .ok (.int .i64 (.lit 2)):=by kernel_rfl
theorem aFU:eW Try.prog aHr = .ok (.int .i64 (.lit 1)):=by kernel_rfl
theorem aFY:eW Try.prog aGs = .ok (.int .i64 (.lit 0)):=by kernel_rfl
end Go.Proofs.Ythiehfhphgkaeaa
namespace Go.Proofs.Ythiehfhphgkaeaa
open Go Go.RowKit Sx Wi
set_option maxRecDepth 100000 in
theorem aGK (x0 x1:Int) (b0:(-4503599627370496)≤x0∧x0≤4503599627370496) (b1:1≤x1∧x1≤262144) (w:World) (hw:WOk GB w):gJ Try.prog 29∧Calls Try.prog 29 #[.int .i64 x0,.int .i64 x1] w (fun e w'=>e = .returned (.int .i64 (Fx.near x0 (x1*256)))∧Below w.heap.size w w'):=by
 refine aBG (vR (ρ:=eK [x0,x1]) (run:=fun fs=>aEI Try.prog fs) (fun _=>rfl) fits (dO ⟨b0,b1,trivial⟩) eX (fun X hX hG=>aAE hX hG) rfl rfl tN ?_ w hw)
 refine aP aK4 ?_
 refine⟨rfl,?_⟩;simp only[nn]at *;first|rfl|(congr 1;done)
def nU:tK:=fun X args=>
 match args with
 |[.int .i64 a0,.int .i64 a1]=>if a0.lies X (-4503599627370496) 4503599627370496 && a1.lies X 1 262144 then .ok (.int .i64 (.app 2 (.cons a0 (.cons (.op .mul a1 (.lit 256)) .nil)))) else .fail 200
 |_ => .fail 201
theorem aJh {X:Ctx} {ρ:Nat→Int} (hX:X.Ok ρ) (hG:X.G=G):oE Try.prog X ρ GB 29 nU:=by
 obtain⟨XG,XI,XV,XF⟩:=X
 simp only at hG
 subst hG
 intro args s h α w vals hv hw
 unfold nU at h
 split at h
 ·split at h
  ·rename_i hg
   try simp only[Bool.and_eq_true]at hg
   obtain⟨g0,g1⟩:=hg
   cases h
   exact gD hv rfl rfl (aGK _ _ (E.lies_in hX g0) (E.lies_in hX g1) w hw)
  ·cases h
 ·cases h
set_option maxHeartbeats 4000000 in
set_option maxRecDepth 100000 in
theorem aF9 (x0 x1 x2 x3 x4 x5 x6 x7:Int) (b0:(-2147483648)≤x0∧x0≤2147483647) (b1:(-2147483648)≤x1∧x1≤2147483647) (b2:(-2147483648)≤x2∧x2≤2147483647) (b3:(-2147483648)≤x3∧x3≤2147483647) (b4:(-2147483648)≤x4∧x4≤2147483647) (b5:(-2147483648)≤x5∧x5≤2147483647) (b6:(-2147483648)≤x6∧x6≤2147483647) (b7:(-2147483648)≤x7∧x7≤2147483647) (w:World) (hw:WOk GB w):gJ Try.prog 24∧Calls Try.prog 24 #[(.agg #[.int .i64 x0,.int .i64 x1,.int .i64 x2,.int .i64 x3,.int .i64 x4,.int .i64 x5,.int .i64 x6,.int .i64 x7])] w (fun e w'=>e = .returned (.int .i64 (iX [x0,x1,x2,x3,x4,x5,x6,x7]))∧Below w.heap.size w w'):=by
 refine aBG (vR (ρ:=eK [x0,x1,x2,x3,x4,x5,x6,x7]) (run:=fun fs=>eW Try.prog fs) (fun _=>rfl) fits (dO ⟨b0,b1,b2,b3,b4,b5,b6,b7,trivial⟩) eX (fun X hX hG=>aAE hX hG) rfl rfl tN ?_ w hw)
 refine lO aIS (fun h0=>?_) (fun h0=>?_)
 rotate_left
 ·skip
  refine aP aFY ?_
  refine⟨rfl,?_⟩;simp only[nn]at *;(try simp only[G,iX]);unfold jA nF;(repeat' split)<;>first|rfl|(exfalso;omega)
 refine lO aIx (fun h1=>?_) (fun h1=>?_)
 rotate_left
 ·skip
  refine aP aFU ?_
  refine⟨rfl,?_⟩;simp only[nn]at *;(try simp only[G,iX]);unfold jA nF;(repeat' split)<;>first|rfl|(exfalso;omega)
 refine lO aIT (fun h2=>?_) (fun h2=>?_)
 rotate_left
 ·skip
  refine aP aHw ?_
  refine⟨rfl,?_⟩;simp only[nn]at *;(try simp only[G,iX]);unfold jA nF;(repeat' split)<;>first|rfl|(exfalso;omega)
 refine lO aJu (fun h3=>?_) (fun h3=>?_)
 rotate_left
 ·skip
  refine aP aI7 ?_
  refine⟨rfl,?_⟩;simp only[nn]at *;(try simp only[G,iX]);unfold jA nF;(repeat' split)<;>first|rfl|(exfalso;omega)
 refine lO aIr (fun h4=>?_) (fun h4=>?_)
 rotate_left
 ·skip
  refine aP aJi ?_
  refine⟨rfl,?_⟩;simp only[nn]at *;(try simp only[G,iX]);unfold jA nF;(repeat' split)<;>first|rfl|(exfalso;omega)
 refine lO aKt (fun h5=>?_) (fun h5=>?_)
 ·skip
  refine aP aI2 ?_
  refine⟨rfl,?_⟩;simp only[nn]at *;(try simp only[G,iX]);unfold jA nF;(repeat' split)<;>first|rfl|(exfalso;omega)
 refine aP aJd ?_
 refine⟨rfl,?_⟩;simp only[nn]at *;(try simp only[G,iX]);unfold jA nF;(repeat' split)<;>first|rfl|(exfalso;omega)
def mU:tK:=fun X args=>
 match args with
 |[(.agg [.int .i64 a0,.int .i64 a1,.int .i64 a2,.int .i64 a3,.int .i64 a4,.int .i64 a5,.int .i64 a6,.int .i64 a7])]=>if a0.lies X (-2147483648) 2147483647 && a1.lies X (-2147483648) 2147483647 && a2.lies X (-2147483648) 2147483647 && a3.lies X (-2147483648) 2147483647 && a4.lies X (-2147483648) 2147483647 && a5.lies X (-2147483648) 2147483647 && a6.lies X (-2147483648) 2147483647 && a7.lies X (-2147483648) 2147483647 then .ok (.int .i64 (.app 43 (.cons a0 (.cons a1 (.cons a2 (.cons a3 (.cons a4 (.cons a5 (.cons a6 (.cons a7 .nil)))))))))) else .fail 200
 |_ => .fail 201
theorem aKv {X:Ctx} {ρ:Nat→Int} (hX:X.Ok ρ) (hG:X.G=G):oE Try.prog X ρ GB 24 mU:=by
 obtain⟨XG,XI,XV,XF⟩:=X
 simp only at hG
 subst hG
 intro args s h α w vals hv hw
 unfold mU at h
 split at h
 ·split at h
  ·rename_i hg
   try simp only[Bool.and_eq_true]at hg
   obtain⟨⟨⟨⟨⟨⟨⟨g0,g1⟩,g2⟩,g3⟩,g4⟩,g5⟩,g6⟩,g7⟩:=hg
   cases h
   exact gD hv rfl rfl (aF9 _ _ _ _ _ _ _ _ (E.lies_in hX g0) (E.lies_in hX g1) (E.lies_in hX g2) (E.lies_in hX g3) (E.lies_in hX g4) (E.lies_in hX g5) (E.lies_in hX g6) (E.lies_in hX g7) w hw)
  ·cases h
 ·cases h
def aBN:bB:=pS 29 nU aLL
theorem aCD {X:Ctx} {ρ:Nat→Int} (hX:X.Ok ρ) (hG:X.G=G):iV Try.prog X ρ GB aBN:=kU (aJh hX hG) (aAE hX hG)
def dE:bB:=pS 24 mU aBN
theorem bX {X:Ctx} {ρ:Nat→Int} (hX:X.Ok ρ) (hG:X.G=G):iV Try.prog X ρ GB dE:=kU (aKv hX hG) (aCD hX hG)
end Go.Proofs.Ythiehfhphgkaeaa
