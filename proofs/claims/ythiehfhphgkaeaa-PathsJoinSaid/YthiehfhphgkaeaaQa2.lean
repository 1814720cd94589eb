/- What is proved: the run of a function over its ways,and what is known on each. No condition. -/
import Derived.Test.YthiehfhphgkaeaaQg6
import Derived.Test.YthiehfhphgkaeaaQg3
import Derived.Test.YthiehfhphgkaeaaProg
import Derived.Test.YthiehfhphgkaeaaQa1
set_option linter.unusedSimpArgs false
set_option linter.unusedVariables false
set_option maxRecDepth 100000
namespace Go.Proofs.Ythiehfhphgkaeaa
open Go Go.RowKit Sx Wi
def aDZ (P:Program) (fs:List B):Res SV:=bW G GI [((-4503599627370496),4503599627370496),(1,262144)] fs (fun X=>aBf P X GB aK6 4000 29 [(.int .i64 (.var 0)),(.int .i64 (.var 1))])
def aIX:List B:=[]
theorem aJ0:aDZ Try.prog aIX = .ok (.int .i64 (.app 2 (.cons (.var 0) (.cons (.op .mul (.var 1) (.lit 256)) .nil)))):=by kernel_rfl
end Go.Proofs.Ythiehfhphgkaeaa
set_option maxRecDepth 100000
namespace Go.Proofs.Ythiehfhphgkaeaa
open Go Go.RowKit Sx Wi
def eR (P:Program) (fs:List B):Res SV:=bW G GI [((-2147483648),2147483647),((-2147483648),2147483647),((-2147483648),2147483647),((-2147483648),2147483647),((-2147483648),2147483647),((-2147483648),2147483647),((-2147483648),2147483647),((-2147483648),2147483647)] fs (fun X=>aBf P X GB aK6 4000 24 [(.agg [(.int .i64 (.var 0)),(.int .i64 (.var 1)),(.int .i64 (.var 2)),(.int .i64 (.var 3)),(.int .i64 (.var 4)),(.int .i64 (.var 5)),(.int .i64 (.var 6)),(.int .i64 (.var 7))])])
def vA:List B:=[]
def aBk:B:=(.cmp .lt (.lit 32768) (.op .mul (.lit 3) (.op .max (.op .max (.op .max (.op .max (.op .max (.op .max (.op .max (.op .max (.lit 0) (.op .add (.op .sub (.var 0) (.op .mul (.lit 2) (.var 2))) (.var 4))) (.op .sub (.lit 0) (.op .add (.op .sub (.var 0) (.op .mul (.lit 2) (.var 2))) (.var 4)))) (.op .add (.op .sub (.var 1) (.op .mul (.lit 2) (.var 3))) (.var 5))) (.op .sub (.lit 0) (.op .add (.op .sub (.var 1) (.op .mul (.lit 2) (.var 3))) (.var 5)))) (.op .add (.op .sub (.var 2) (.op .mul (.lit 2) (.var 4))) (.var 6))) (.op .sub (.lit 0) (.op .add (.op .sub (.var 2) (.op .mul (.lit 2) (.var 4))) (.var 6)))) (.op .add (.op .sub (.var 3) (.op .mul (.lit 2) (.var 5))) (.var 7))) (.op .sub (.lit 0) (.op .add (.op .sub (.var 3) (.op .mul (.lit 2) (.var 5))) (.var 7))))))
def uL:List B:=bA aBk++vA
def aCf:B:=(.cmp .lt (.lit 131072) (.op .mul (.lit 3) (.op .max (.op .max (.op .max (.op .max (.op .max (.op .max (.op .max (.op .max (.lit 0) (.op .add (.op .sub (.var 0) (.op .mul (.lit 2) (.var 2))) (.var 4))) (.op .sub (.lit 0) (.op .add (.op .sub (.var 0) (.op .mul (.lit 2) (.var 2))) (.var 4)))) (.op .add (.op .sub (.var 1) (.op .mul (.lit 2) (.var 3))) (.var 5))) (.op .sub (.lit 0) (.op .add (.op .sub (.var 1) (.op .mul (.lit 2) (.var 3))) (.var 5)))) (.op .add (.op .sub (.var 2) (.op .mul (.lit 2) (.var 4))) (.var 6))) (.op .sub (.lit 0) (.op .add (.op .sub (.var 2) (.op .mul (.lit 2) (.var 4))) (.var 6)))) (.op .add (.op .sub (.var 3) (.op .mul (.lit 2) (.var 5))) (.var 7))) (.op .sub (.lit 0) (.op .add (.op .sub (.var 3) (.op .mul (.lit 2) (.var 5))) (.var 7))))))
def uU:List B:=bA aCf++uL
def aBP:B:=(.cmp .lt (.lit 524288) (.op .mul (.lit 3) (.op .max (.op .max (.op .max (.op .max (.op .max (.op .max (.op .max (.op .max (.lit 0) (.op .add (.op .sub (.var 0) (.op .mul (.lit 2) (.var 2))) (.var 4))) (.op .sub (.lit 0) (.op .add (.op .sub (.var 0) (.op .mul (.lit 2) (.var 2))) (.var 4)))) (.op .add (.op .sub (.var 1) (.op .mul (.lit 2) (.var 3))) (.var 5))) (.op .sub (.lit 0) (.op .add (.op .sub (.var 1) (.op .mul (.lit 2) (.var 3))) (.var 5)))) (.op .add (.op .sub (.var 2) (.op .mul (.lit 2) (.var 4))) (.var 6))) (.op .sub (.lit 0) (.op .add (.op .sub (.var 2) (.op .mul (.lit 2) (.var 4))) (.var 6)))) (.op .add (.op .sub (.var 3) (.op .mul (.lit 2) (.var 5))) (.var 7))) (.op .sub (.lit 0) (.op .add (.op .sub (.var 3) (.op .mul (.lit 2) (.var 5))) (.var 7))))))
def wX:List B:=bA aBP++uU
def aCi:B:=(.cmp .lt (.lit 2097152) (.op .mul (.lit 3) (.op .max (.op .max (.op .max (.op .max (.op .max (.op .max (.op .max (.op .max (.lit 0) (.op .add (.op .sub (.var 0) (.op .mul (.lit 2) (.var 2))) (.var 4))) (.op .sub (.lit 0) (.op .add (.op .sub (.var 0) (.op .mul (.lit 2) (.var 2))) (.var 4)))) (.op .add (.op .sub (.var 1) (.op .mul (.lit 2) (.var 3))) (.var 5))) (.op .sub (.lit 0) (.op .add (.op .sub (.var 1) (.op .mul (.lit 2) (.var 3))) (.var 5)))) (.op .add (.op .sub (.var 2) (.op .mul (.lit 2) (.var 4))) (.var 6))) (.op .sub (.lit 0) (.op .add (.op .sub (.var 2) (.op .mul (.lit 2) (.var 4))) (.var 6)))) (.op .add (.op .sub (.var 3) (.op .mul (.lit 2) (.var 5))) (.var 7))) (.op .sub (.lit 0) (.op .add (.op .sub (.var 3) (.op .mul (.lit 2) (.var 5))) (.var 7))))))
def vS:List B:=bA aCi++wX
def aB5:B:=(.cmp .lt (.lit 8388608) (.op .mul (.lit 3) (.op .max (.op .max (.op .max (.op .max (.op .max (.op .max (.op .max (.op .max (.lit 0) (.op .add (.op .sub (.var 0) (.op .mul (.lit 2) (.var 2))) (.var 4))) (.op .sub (.lit 0) (.op .add (.op .sub (.var 0) (.op .mul (.lit 2) (.var 2))) (.var 4)))) (.op .add (.op .sub (.var 1) (.op .mul (.lit 2) (.var 3))) (.var 5))) (.op .sub (.lit 0) (.op .add (.op .sub (.var 1) (.op .mul (.lit 2) (.var 3))) (.var 5)))) (.op .add (.op .sub (.var 2) (.op .mul (.lit 2) (.var 4))) (.var 6))) (.op .sub (.lit 0) (.op .add (.op .sub (.var 2) (.op .mul (.lit 2) (.var 4))) (.var 6)))) (.op .add (.op .sub (.var 3) (.op .mul (.lit 2) (.var 5))) (.var 7))) (.op .sub (.lit 0) (.op .add (.op .sub (.var 3) (.op .mul (.lit 2) (.var 5))) (.var 7))))))
def uS:List B:=bA aB5++vS
def aBG:B:=(.cmp .lt (.lit 33554432) (.op .mul (.lit 3) (.op .max (.op .max (.op .max (.op .max (.op .max (.op .max (.op .max (.op .max (.lit 0) (.op .add (.op .sub (.var 0) (.op .mul (.lit 2) (.var 2))) (.var 4))) (.op .sub (.lit 0) (.op .add (.op .sub (.var 0) (.op .mul (.lit 2) (.var 2))) (.var 4)))) (.op .add (.op .sub (.var 1) (.op .mul (.lit 2) (.var 3))) (.var 5))) (.op .sub (.lit 0) (.op .add (.op .sub (.var 1) (.op .mul (.lit 2) (.var 3))) (.var 5)))) (.op .add (.op .sub (.var 2) (.op .mul (.lit 2) (.var 4))) (.var 6))) (.op .sub (.lit 0) (.op .add (.op .sub (.var 2) (.op .mul (.lit 2) (.var 4))) (.var 6)))) (.op .add (.op .sub (.var 3) (.op .mul (.lit 2) (.var 5))) (.var 7))) (.op .sub (.lit 0) (.op .add (.op .sub (.var 3) (.op .mul (.lit 2) (.var 5))) (.var 7))))))
def aHF:List B:=bA aBG++uS
def aIN:List B:=bA (B.neg aBG)++uS
def aJ8:List B:=bA (B.neg aB5)++vS
def aJT:List B:=bA (B.neg aCi)++wX
def aEx:List B:=bA (B.neg aBP)++uU
def aGy:List B:=bA (B.neg aCf)++uL
def aGP:List B:=bA (B.neg aBk)++vA
theorem aG9:eR Try.prog vA = .need (.cmp .lt (.lit 32768) (.op .mul (.lit 3) (.op .max (.op .max (.op .max (.op .max (.op .max (.op .max (.op .max (.op .max (.lit 0) (.op .add (.op .sub (.var 0) (.op .mul (.lit 2) (.var 2))) (.var 4))) (.op .sub (.lit 0) (.op .add (.op .sub (.var 0) (.op .mul (.lit 2) (.var 2))) (.var 4)))) (.op .add (.op .sub (.var 1) (.op .mul (.lit 2) (.var 3))) (.var 5))) (.op .sub (.lit 0) (.op .add (.op .sub (.var 1) (.op .mul (.lit 2) (.var 3))) (.var 5)))) (.op .add (.op .sub (.var 2) (.op .mul (.lit 2) (.var 4))) (.var 6))) (.op .sub (.lit 0) (.op .add (.op .sub (.var 2) (.op .mul (.lit 2) (.var 4))) (.var 6)))) (.op .add (.op .sub (.var 3) (.op .mul (.lit 2) (.var 5))) (.var 7))) (.op .sub (.lit 0) (.op .add (.op .sub (.var 3) (.op .mul (.lit 2) (.var 5))) (.var 7)))))):=by kernel_rfl
theorem aHL:eR Try.prog uL = .need (.cmp .lt (.lit 131072) (.op .mul (.lit 3) (.op .max (.op .max (.op .max (.op .max (.op .max (.op .max (.op .max (.op .max (.lit 0) (.op .add (.op .sub (.var 0) (.op .mul (.lit 2) (.var 2))) (.var 4))) (.op .sub (.lit 0) (.op .add (.op .sub (.var 0) (.op .mul (.lit 2) (.var 2))) (.var 4)))) (.op .add (.op .sub (.var 1) (.op .mul (.lit 2) (.var 3))) (.var 5))) (.op .sub (.lit 0) (.op .add (.op .sub (.var 1) (.op .mul (.lit 2) (.var 3))) (.var 5)))) (.op .add (.op .sub (.var 2) (.op .mul (.lit 2) (.var 4))) (.var 6))) (.op .sub (.lit 0) (.op .add (.op .sub (.var 2) (.op .mul (.lit 2) (.var 4))) (.var 6)))) (.op .add (.op .sub (.var 3) (.op .mul (.lit 2) (.var 5))) (.var 7))) (.op .sub (.lit 0) (.op .add (.op .sub (.var 3) (.op .mul (.lit 2) (.var 5))) (.var 7)))))):=by kernel_rfl
theorem aIy:eR Try.prog uU = .need (.cmp .lt (.lit 524288) (.op .mul (.lit 3) (.op .max (.op .max (.op .max (.op .max (.op .max (.op .max (.op .max (.op .max (.lit 0) (.op .add (.op .sub (.var 0) (.op .mul (.lit 2) (.var 2))) (.var 4))) (.op .sub (.lit 0) (.op .add (.op .sub (.var 0) (.op .mul (.lit 2) (.var 2))) (.var 4)))) (.op .add (.op .sub (.var 1) (.op .mul (.lit 2) (.var 3))) (.var 5))) (.op .sub (.lit 0) (.op .add (.op .sub (.var 1) (.op .mul (.lit 2) (.var 3))) (.var 5)))) (.op .add (.op .sub (.var 2) (.op .mul (.lit 2) (.var 4))) (.var 6))) (.op .sub (.lit 0) (.op .add (.op .sub (.var 2) (.op .mul (.lit 2) (.var 4))) (.var 6)))) (.op .add (.op .sub (.var 3) (.op .mul (.lit 2) (.var 5))) (.var 7))) (.op .sub (.lit 0) (.op .add (.op .sub (.var 3) (.op .mul (.lit 2) (.var 5))) (.var 7)))))):=by kernel_rfl
theorem aI5:eR Try.prog wX = .need (.cmp .lt (.lit 2097152) (.op .mul (.lit 3) (.op .max (.op .max (.op .max (.op .max (.op .max (.op .max (.op .max (.op .max (.lit 0) (.op .add (.op .sub (.var 0) (.op .mul (.lit 2) (.var 2))) (.var 4))) (.op .sub (.lit 0) (.op .add (.op .sub (.var 0) (.op .mul (.lit 2) (.var 2))) (.var 4)))) (.op .add (.op .sub (.var 1) (.op .mul (.lit 2) (.var 3))) (.var 5))) (.op .sub (.lit 0) (.op .add (.op .sub (.var 1) (.op .mul (.lit 2) (.var 3))) (.var 5)))) (.op .add (.op .sub (.var 2) (.op .mul (.lit 2) (.var 4))) (.var 6))) (.op .sub (.lit 0) (.op .add (.op .sub (.var 2) (.op .mul (.lit 2) (.var 4))) (.var 6)))) (.op .add (.op .sub (.var 3) (.op .mul (.lit 2) (.var 5))) (.var 7))) (.op .sub (.lit 0) (.op .add (.op .sub (.var 3) (.op .mul (.lit 2) (.var 5))) (.var 7)))))):=by kernel_rfl
theorem aI3:eR Try.prog vS = .need (.cmp .lt (.lit 8388608) (.op .mul (.lit 3) (.op .max (.op .max (.op .max (.op .max (.op .max (.op .max (.op .max (.op .max (.lit 0) (.op .add (.op .sub (.var 0) (.op .mul (.lit 2) (.var 2))) (.var 4))) (.op .sub (.lit 0) (.op .add (.op .sub (.var 0) (.op .mul (.lit 2) (.var 2))) (.var 4)))) (.op .add (.op .sub (.var 1) (.op .mul (.lit 2) (.var 3))) (.var 5))) (.op .sub (.lit 0) (.op .add (.op .sub (.var 1) (.op .mul (.lit 2) (.var 3))) (.var 5)))) (.op .add (.op .sub (.var 2) (.op .mul (.lit 2) (.var 4))) (.var 6))) (.op .sub (.lit 0) (.op .add (.op .sub (.var 2) (.op .mul (.lit 2) (.var 4))) (.var 6)))) (.op .add (.op .sub (.var 3) (.op .mul (.lit 2) (.var 5))) (.var 7))) (.op .sub (.lit 0) (.op .add (.op .sub (.var 3) (.op .mul (.lit 2) (.var 5))) (.var 7)))))):=by kernel_rfl
theorem aHR:eR Try.prog uS = .need (.cmp .lt (.lit 33554432) (.op .mul (.lit 3) (.op .max (.op .max (.op .max (.op .max (.op .max (.op .max (.op .max (.op .max (.lit 0) (.op .add (.op .sub (.var 0) (.op .mul (.lit 2) (.var 2))) (.var 4))) (.op .sub (.lit 0) (.op .add (.op .sub (.var 0) (.op .mul (.lit 2) (.var 2))) (.var 4)))) (.op .add (.op .sub (.var 1) (.op .mul (.lit 2) (.var 3))) (.var 5))) (.op .sub (.lit 0) (.op .add (.op .sub (.var 1) (.op .mul (.lit 2) (.var 3))) (.var 5)))) (.op .add (.op .sub (.var 2) (.op .mul (.lit 2) (.var 4))) (.var 6))) (.op .sub (.lit 0) (.op .add (.op .sub (.var 2) (.op .mul (.lit 2) (.var 4))) (.var 6)))) (.op .add (.op .sub (.var 3) (.op .mul (.lit 2) (.var 5))) (.var 7))) (.op .sub (.lit 0) (.op .add (.op .sub (.var 3) (.op .mul (.lit 2) (.var 5))) (.var 7)))))):=by kernel_rfl
theorem aKc:eR Try.prog aHF = .ok (.int .i64 (.lit 6)):=by kernel_rfl
theorem aJD:eR Try.prog aIN = .ok (.int .i64 (.lit 5)):=by kernel_rfl
theorem aHE:eR Try.prog aJ8 = .ok (.int .i64 (.lit 4)):=by kernel_rfl
theorem aJH:eR Try.prog aJT = .ok (.int .i64 (.lit 3)):=by kernel_rfl
theorem aGi:eR Try.prog aEx = .ok (.int .i64 (.lit 2)):=by kernel_rfl
theorem aEw:eR Try.prog aGy = .ok (.int .i64 (.lit 1)):=by kernel_rfl
theorem aE7:eR Try.prog aGP = .ok (.int .i64 (.lit 0)):=by kernel_rfl
end Go.Proofs.Ythiehfhphgkaeaa
namespace Go.Proofs.Ythiehfhphgkaeaa
open Go Go.RowKit Sx Wi
set_option maxRecDepth 100000 in
theorem aFp (x0 x1:Int) (b0:(-4503599627370496)≤x0∧x0≤4503599627370496) (b1:1≤x1∧x1≤262144) (w:World) (hw:WOk GB w):gB Try.prog 29∧Calls Try.prog 29 #[.int .i64 x0,.int .i64 x1] w (fun e w'=>e = .returned (.int .i64 (Fx.near x0 (x1*256)))∧Below w.heap.size w w'):=by
 refine aAT (vH (ρ:=eT [x0,x1]) (run:=fun fs=>aDZ Try.prog fs) (fun _=>rfl) fits (dO ⟨b0,b1,trivial⟩) eK (fun X hX hG=>aAf hX hG) rfl rfl tA ?_ w hw)
 refine aQ aJ0 ?_
 refine⟨rfl,?_⟩;simp only[nn]at *;first|rfl|(congr 1;done)
def mG:sW:=fun X args=>
 match args with
 |[.int .i64 a0,.int .i64 a1]=>if a0.lies X (-4503599627370496) 4503599627370496 && a1.lies X 1 262144 then .ok (.int .i64 (.app 2 (.cons a0 (.cons (.op .mul a1 (.lit 256)) .nil)))) else .fail 200
 |_ => .fail 201
theorem aH2 {X:Ctx} {ρ:Nat→Int} (hX:X.Ok ρ) (hG:X.G=G):nI Try.prog X ρ GB 29 mG:=by
 obtain⟨XG,XI,XV,XF⟩:=X
 simp only at hG
 subst hG
 intro args s h α w vals hv hw
 unfold mG at h
 split at h
 ·split at h
  ·rename_i hg
   try simp only[Bool.and_eq_true]at hg
   obtain⟨g0,g1⟩:=hg
   cases h
   exact fW hv rfl rfl (aFp _ _ (E.lies_in hX g0) (E.lies_in hX g1) w hw)
  ·cases h
 ·cases h
set_option maxHeartbeats 4000000 in
set_option maxRecDepth 100000 in
theorem aFW (x0 x1 x2 x3 x4 x5 x6 x7:Int) (b0:(-2147483648)≤x0∧x0≤2147483647) (b1:(-2147483648)≤x1∧x1≤2147483647) (b2:(-2147483648)≤x2∧x2≤2147483647) (b3:(-2147483648)≤x3∧x3≤2147483647) (b4:(-2147483648)≤x4∧x4≤2147483647) (b5:(-2147483648)≤x5∧x5≤2147483647) (b6:(-2147483648)≤x6∧x6≤2147483647) (b7:(-2147483648)≤x7∧x7≤2147483647) (w:World) (hw:WOk GB w):gB Try.prog 24∧Calls Try.prog 24 #[(.agg #[.int .i64 x0,.int .i64 x1,.int .i64 x2,.int .i64 x3,.int .i64 x4,.int .i64 x5,.int .i64 x6,.int .i64 x7])] w (fun e w'=>e = .returned (.int .i64 (iR [x0,x1,x2,x3,x4,x5,x6,x7]))∧Below w.heap.size w w'):=by
 refine aAT (vH (ρ:=eT [x0,x1,x2,x3,x4,x5,x6,x7]) (run:=fun fs=>eR Try.prog fs) (fun _=>rfl) fits (dO ⟨b0,b1,b2,b3,b4,b5,b6,b7,trivial⟩) eK (fun X hX hG=>aAf hX hG) rfl rfl tA ?_ w hw)
 refine kC aG9 (fun h0=>?_) (fun h0=>?_)
 rotate_left
 ·skip
  refine aQ aE7 ?_
  refine⟨rfl,?_⟩;simp only[nn]at *;(try simp only[G,iR]);unfold jE sH;(repeat' split)<;>first|rfl|(exfalso;omega)
 refine kC aHL (fun h1=>?_) (fun h1=>?_)
 rotate_left
 ·skip
  refine aQ aEw ?_
  refine⟨rfl,?_⟩;simp only[nn]at *;(try simp only[G,iR]);unfold jE sH;(repeat' split)<;>first|rfl|(exfalso;omega)
 refine kC aIy (fun h2=>?_) (fun h2=>?_)
 rotate_left
 ·skip
  refine aQ aGi ?_
  refine⟨rfl,?_⟩;simp only[nn]at *;(try simp only[G,iR]);unfold jE sH;(repeat' split)<;>first|rfl|(exfalso;omega)
 refine kC aI5 (fun h3=>?_) (fun h3=>?_)
 rotate_left
 ·skip
  refine aQ aJH ?_
  refine⟨rfl,?_⟩;simp only[nn]at *;(try simp only[G,iR]);unfold jE sH;(repeat' split)<;>first|rfl|(exfalso;omega)
 refine kC aI3 (fun h4=>?_) (fun h4=>?_)
 rotate_left
 ·skip
  refine aQ aHE ?_
  refine⟨rfl,?_⟩;simp only[nn]at *;(try simp only[G,iR]);unfold jE sH;(repeat' split)<;>first|rfl|(exfalso;omega)
 refine kC aHR (fun h5=>?_) (fun h5=>?_)
 ·skip
  refine aQ aKc ?_
  refine⟨rfl,?_⟩;simp only[nn]at *;(try simp only[G,iR]);unfold jE sH;(repeat' split)<;>first|rfl|(exfalso;omega)
 refine aQ aJD ?_
 refine⟨rfl,?_⟩;simp only[nn]at *;(try simp only[G,iR]);unfold jE sH;(repeat' split)<;>first|rfl|(exfalso;omega)
def mR:sW:=fun X args=>
 match args with
 |[(.agg [.int .i64 a0,.int .i64 a1,.int .i64 a2,.int .i64 a3,.int .i64 a4,.int .i64 a5,.int .i64 a6,.int .i64 a7])]=>if a0.lies X (-2147483648) 2147483647 && a1.lies X (-2147483648) 2147483647 && a2.lies X (-2147483648) 2147483647 && a3.lies X (-2147483648) 2147483647 && a4.lies X (-2147483648) 2147483647 && a5.lies X (-2147483648) 2147483647 && a6.lies X (-2147483648) 2147483647 && a7.lies X (-2147483648) 2147483647 then .ok (.int .i64 (.app 43 (.cons a0 (.cons a1 (.cons a2 (.cons a3 (.cons a4 (.cons a5 (.cons a6 (.cons a7 .nil)))))))))) else .fail 200
 |_ => .fail 201
theorem aI7 {X:Ctx} {ρ:Nat→Int} (hX:X.Ok ρ) (hG:X.G=G):nI Try.prog X ρ GB 24 mR:=by
 obtain⟨XG,XI,XV,XF⟩:=X
 simp only at hG
 subst hG
 intro args s h α w vals hv hw
 unfold mR at h
 split at h
 ·split at h
  ·rename_i hg
   try simp only[Bool.and_eq_true]at hg
   obtain⟨⟨⟨⟨⟨⟨⟨g0,g1⟩,g2⟩,g3⟩,g4⟩,g5⟩,g6⟩,g7⟩:=hg
   cases h
   exact fW hv rfl rfl (aFW _ _ _ _ _ _ _ _ (E.lies_in hX g0) (E.lies_in hX g1) (E.lies_in hX g2) (E.lies_in hX g3) (E.lies_in hX g4) (E.lies_in hX g5) (E.lies_in hX g6) (E.lies_in hX g7) w hw)
  ·cases h
 ·cases h
def aA9:aZ:=oT 29 mG aK6
theorem aAY {X:Ctx} {ρ:Nat→Int} (hX:X.Ok ρ) (hG:X.G=G):gW Try.prog X ρ GB aA9:=kX (aH2 hX hG) (aAf hX hG)
def cU:aZ:=oT 24 mR aA9
theorem bN {X:Ctx} {ρ:Nat→Int} (hX:X.Ok ρ) (hG:X.G=G):gW Try.prog X ρ GB cU:=kX (aI7 hX hG) (aAY hX hG)
end Go.Proofs.Ythiehfhphgkaeaa
