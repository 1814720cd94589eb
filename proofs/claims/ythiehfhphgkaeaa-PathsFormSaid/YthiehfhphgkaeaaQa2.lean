/- What is proved: the run of a function over its ways,and what is known on each. No condition. -/
import Derived.Test.YthiehfhphgkaeaaQg6
import Derived.Test.YthiehfhphgkaeaaQg3
import Derived.Test.YthiehfhphgkaeaaProg
import Derived.Test.YthiehfhphgkaeaaQa1
set_option linter.unusedSimpArgs false
set_option linter.unusedVariables false
set_option maxRecDepth 100000
namespace Go.Proofs.Ythiehfhphgkaeaa
open Go Go.RowKit Sx Wi
def aCP (P:Program) (fs:List B):Res SV:=bU G GI [((-4503599627370496),4503599627370496),(1,262144)] fs (fun X=>aAI P X GB aJH 4000 29 [(.int .i64 (.var 0)),(.int .i64 (.var 1))])
def aIW:List B:=[]
theorem aHB:aCP Try.prog aIW = .ok (.int .i64 (.app 2 (.cons (.var 0) (.cons (.op .mul (.var 1) (.lit 256)) .nil)))):=by kernel_rfl
end Go.Proofs.Ythiehfhphgkaeaa
set_option maxRecDepth 100000
namespace Go.Proofs.Ythiehfhphgkaeaa
open Go Go.RowKit Sx Wi
def eE (P:Program) (fs:List B):Res SV:=bU G GI [((-2147483648),2147483647),((-2147483648),2147483647),((-2147483648),2147483647),((-2147483648),2147483647),((-2147483648),2147483647),((-2147483648),2147483647),((-2147483648),2147483647),((-2147483648),2147483647)] fs (fun X=>aAI P X GB aJH 4000 24 [(.agg [(.int .i64 (.var 0)),(.int .i64 (.var 1)),(.int .i64 (.var 2)),(.int .i64 (.var 3)),(.int .i64 (.var 4)),(.int .i64 (.var 5)),(.int .i64 (.var 6)),(.int .i64 (.var 7))])])
def uD:List B:=[]
def aAN:B:=(.cmp .lt (.lit 32768) (.op .mul (.lit 3) (.op .max (.op .max (.op .max (.op .max (.op .max (.op .max (.op .max (.op .max (.lit 0) (.op .add (.op .sub (.var 0) (.op .mul (.lit 2) (.var 2))) (.var 4))) (.op .sub (.lit 0) (.op .add (.op .sub (.var 0) (.op .mul (.lit 2) (.var 2))) (.var 4)))) (.op .add (.op .sub (.var 1) (.op .mul (.lit 2) (.var 3))) (.var 5))) (.op .sub (.lit 0) (.op .add (.op .sub (.var 1) (.op .mul (.lit 2) (.var 3))) (.var 5)))) (.op .add (.op .sub (.var 2) (.op .mul (.lit 2) (.var 4))) (.var 6))) (.op .sub (.lit 0) (.op .add (.op .sub (.var 2) (.op .mul (.lit 2) (.var 4))) (.var 6)))) (.op .add (.op .sub (.var 3) (.op .mul (.lit 2) (.var 5))) (.var 7))) (.op .sub (.lit 0) (.op .add (.op .sub (.var 3) (.op .mul (.lit 2) (.var 5))) (.var 7))))))
def vF:List B:=aU aAN++uD
def aA9:B:=(.cmp .lt (.lit 131072) (.op .mul (.lit 3) (.op .max (.op .max (.op .max (.op .max (.op .max (.op .max (.op .max (.op .max (.lit 0) (.op .add (.op .sub (.var 0) (.op .mul (.lit 2) (.var 2))) (.var 4))) (.op .sub (.lit 0) (.op .add (.op .sub (.var 0) (.op .mul (.lit 2) (.var 2))) (.var 4)))) (.op .add (.op .sub (.var 1) (.op .mul (.lit 2) (.var 3))) (.var 5))) (.op .sub (.lit 0) (.op .add (.op .sub (.var 1) (.op .mul (.lit 2) (.var 3))) (.var 5)))) (.op .add (.op .sub (.var 2) (.op .mul (.lit 2) (.var 4))) (.var 6))) (.op .sub (.lit 0) (.op .add (.op .sub (.var 2) (.op .mul (.lit 2) (.var 4))) (.var 6)))) (.op .add (.op .sub (.var 3) (.op .mul (.lit 2) (.var 5))) (.var 7))) (.op .sub (.lit 0) (.op .add (.op .sub (.var 3) (.op .mul (.lit 2) (.var 5))) (.var 7))))))
def tS:List B:=aU aA9++vF
def aAF:B:=(.cmp .lt (.lit 524288) (.op .mul (.lit 3) (.op .max (.op .max (.op .max (.op .max (.op .max (.op .max (.op .max (.op .max (.lit 0) (.op .add (.op .sub (.var 0) (.op .mul (.lit 2) (.var 2))) (.var 4))) (.op .sub (.lit 0) (.op .add (.op .sub (.var 0) (.op .mul (.lit 2) (.var 2))) (.var 4)))) (.op .add (.op .sub (.var 1) (.op .mul (.lit 2) (.var 3))) (.var 5))) (.op .sub (.lit 0) (.op .add (.op .sub (.var 1) (.op .mul (.lit 2) (.var 3))) (.var 5)))) (.op .add (.op .sub (.var 2) (.op .mul (.lit 2) (.var 4))) (.var 6))) (.op .sub (.lit 0) (.op .add (.op .sub (.var 2) (.op .mul (.lit 2) (.var 4))) (.var 6)))) (.op .add (.op .sub (.var 3) (.op .mul (.lit 2) (.var 5))) (.var 7))) (.op .sub (.lit 0) (.op .add (.op .sub (.var 3) (.op .mul (.lit 2) (.var 5))) (.var 7))))))
def tV:List B:=aU aAF++tS
def aBa:B:=(.cmp .lt (.lit 2097152) (.op .mul (.lit 3) (.op .max (.op .max (.op .max (.op .max (.op .max (.op .max (.op .max (.op .max (.lit 0) (.op .add (.op .sub (.var 0) (.op .mul (.lit 2) (.var 2))) (.var 4))) (.op .sub (.lit 0) (.op .add (.op .sub (.var 0) (.op .mul (.lit 2) (.var 2))) (.var 4)))) (.op .add (.op .sub (.var 1) (.op .mul (.lit 2) (.var 3))) (.var 5))) (.op .sub (.lit 0) (.op .add (.op .sub (.var 1) (.op .mul (.lit 2) (.var 3))) (.var 5)))) (.op .add (.op .sub (.var 2) (.op .mul (.lit 2) (.var 4))) (.var 6))) (.op .sub (.lit 0) (.op .add (.op .sub (.var 2) (.op .mul (.lit 2) (.var 4))) (.var 6)))) (.op .add (.op .sub (.var 3) (.op .mul (.lit 2) (.var 5))) (.var 7))) (.op .sub (.lit 0) (.op .add (.op .sub (.var 3) (.op .mul (.lit 2) (.var 5))) (.var 7))))))
def vE:List B:=aU aBa++tV
def aAq:B:=(.cmp .lt (.lit 8388608) (.op .mul (.lit 3) (.op .max (.op .max (.op .max (.op .max (.op .max (.op .max (.op .max (.op .max (.lit 0) (.op .add (.op .sub (.var 0) (.op .mul (.lit 2) (.var 2))) (.var 4))) (.op .sub (.lit 0) (.op .add (.op .sub (.var 0) (.op .mul (.lit 2) (.var 2))) (.var 4)))) (.op .add (.op .sub (.var 1) (.op .mul (.lit 2) (.var 3))) (.var 5))) (.op .sub (.lit 0) (.op .add (.op .sub (.var 1) (.op .mul (.lit 2) (.var 3))) (.var 5)))) (.op .add (.op .sub (.var 2) (.op .mul (.lit 2) (.var 4))) (.var 6))) (.op .sub (.lit 0) (.op .add (.op .sub (.var 2) (.op .mul (.lit 2) (.var 4))) (.var 6)))) (.op .add (.op .sub (.var 3) (.op .mul (.lit 2) (.var 5))) (.var 7))) (.op .sub (.lit 0) (.op .add (.op .sub (.var 3) (.op .mul (.lit 2) (.var 5))) (.var 7))))))
def tT:List B:=aU aAq++vE
def aAV:B:=(.cmp .lt (.lit 33554432) (.op .mul (.lit 3) (.op .max (.op .max (.op .max (.op .max (.op .max (.op .max (.op .max (.op .max (.lit 0) (.op .add (.op .sub (.var 0) (.op .mul (.lit 2) (.var 2))) (.var 4))) (.op .sub (.lit 0) (.op .add (.op .sub (.var 0) (.op .mul (.lit 2) (.var 2))) (.var 4)))) (.op .add (.op .sub (.var 1) (.op .mul (.lit 2) (.var 3))) (.var 5))) (.op .sub (.lit 0) (.op .add (.op .sub (.var 1) (.op .mul (.lit 2) (.var 3))) (.var 5)))) (.op .add (.op .sub (.var 2) (.op .mul (.lit 2) (.var 4))) (.var 6))) (.op .sub (.lit 0) (.op .add (.op .sub (.var 2) (.op .mul (.lit 2) (.var 4))) (.var 6)))) (.op .add (.op .sub (.var 3) (.op .mul (.lit 2) (.var 5))) (.var 7))) (.op .sub (.lit 0) (.op .add (.op .sub (.var 3) (.op .mul (.lit 2) (.var 5))) (.var 7))))))
def aGB:List B:=aU aAV++tT
def aIc:List B:=aU (B.neg aAV)++tT
def aHv:List B:=aU (B.neg aAq)++vE
def aGg:List B:=aU (B.neg aBa)++tV
def aEM:List B:=aU (B.neg aAF)++tS
def aEK:List B:=aU (B.neg aA9)++vF
def aEW:List B:=aU (B.neg aAN)++uD
theorem aHy:eE Try.prog uD = .need (.cmp .lt (.lit 32768) (.op .mul (.lit 3) (.op .max (.op .max (.op .max (.op .max (.op .max (.op .max (.op .max (.op .max (.lit 0) (.op .add (.op .sub (.var 0) (.op .mul (.lit 2) (.var 2))) (.var 4))) (.op .sub (.lit 0) (.op .add (.op .sub (.var 0) (.op .mul (.lit 2) (.var 2))) (.var 4)))) (.op .add (.op .sub (.var 1) (.op .mul (.lit 2) (.var 3))) (.var 5))) (.op .sub (.lit 0) (.op .add (.op .sub (.var 1) (.op .mul (.lit 2) (.var 3))) (.var 5)))) (.op .add (.op .sub (.var 2) (.op .mul (.lit 2) (.var 4))) (.var 6))) (.op .sub (.lit 0) (.op .add (.op .sub (.var 2) (.op .mul (.lit 2) (.var 4))) (.var 6)))) (.op .add (.op .sub (.var 3) (.op .mul (.lit 2) (.var 5))) (.var 7))) (.op .sub (.lit 0) (.op .add (.op .sub (.var 3) (.op .mul (.lit 2) (.var 5))) (.var 7)))))):=by kernel_rfl
theorem aHo:eE Try.prog vF = .need (.cmp .lt (.lit 131072) (.op .mul (.lit 3) (.op .max (.op .max (.op .max (.op .max (.op .max (.op .max (.op .max (.op .max (.lit 0) (.op .add (.op .sub (.var 0) (.op .mul (.lit 2) (.var 2))) (.var 4))) (.op .sub (.lit 0) (.op .add (.op .sub (.var 0) (.op .mul (.lit 2) (.var 2))) (.var 4)))) (.op .add (.op .sub (.var 1) (.op .mul (.lit 2) (.var 3))) (.var 5))) (.op .sub (.lit 0) (.op .add (.op .sub (.var 1) (.op .mul (.lit 2) (.var 3))) (.var 5)))) (.op .add (.op .sub (.var 2) (.op .mul (.lit 2) (.var 4))) (.var 6))) (.op .sub (.lit 0) (.op .add (.op .sub (.var 2) (.op .mul (.lit 2) (.var 4))) (.var 6)))) (.op .add (.op .sub (.var 3) (.op .mul (.lit 2) (.var 5))) (.var 7))) (.op .sub (.lit 0) (.op .add (.op .sub (.var 3) (.op .mul (.lit 2) (.var 5))) (.var 7)))))):=by kernel_rfl
theorem aHs:eE Try.prog tS = .need (.cmp .lt (.lit 524288) (.op .mul (.lit 3) (.op .max (.op .max (.op .max (.op .max (.op .max (.op .max (.op .max (.op .max (.lit 0) (.op .add (.op .sub (.var 0) (.op .mul (.lit 2) (.var 2))) (.var 4))) (.op .sub (.lit 0) (.op .add (.op .sub (.var 0) (.op .mul (.lit 2) (.var 2))) (.var 4)))) (.op .add (.op .sub (.var 1) (.op .mul (.lit 2) (.var 3))) (.var 5))) (.op .sub (.lit 0) (.op .add (.op .sub (.var 1) (.op .mul (.lit 2) (.var 3))) (.var 5)))) (.op .add (.op .sub (.var 2) (.op .mul (.lit 2) (.var 4))) (.var 6))) (.op .sub (.lit 0) (.op .add (.op .sub (.var 2) (.op .mul (.lit 2) (.var 4))) (.var 6)))) (.op .add (.op .sub (.var 3) (.op .mul (.lit 2) (.var 5))) (.var 7))) (.op .sub (.lit 0) (.op .add (.op .sub (.var 3) (.op .mul (.lit 2) (.var 5))) (.var 7)))))):=by kernel_rfl
theorem aIm:eE Try.prog tV = .need (.cmp .lt (.lit 2097152) (.op .mul (.lit 3) (.op .max (.op .max (.op .max (.op .max (.op .max (.op .max (.op .max (.op .max (.lit 0) (.op .add (.op .sub (.var 0) (.op .mul (.lit 2) (.var 2))) (.var 4))) (.op .sub (.lit 0) (.op .add (.op .sub (.var 0) (.op .mul (.lit 2) (.var 2))) (.var 4)))) (.op .add (.op .sub (.var 1) (.op .mul (.lit 2) (.var 3))) (.var 5))) (.op .sub (.lit 0) (.op .add (.op .sub (.var 1) (.op .mul (.lit 2) (.var 3))) (.var 5)))) (.op .add (.op .sub (.var 2) (.op .mul (.lit 2) (.var 4))) (.var 6))) (.op .sub (.lit 0) (.op .add (.op .sub (.var 2) (.op .mul (.lit 2) (.var 4))) (.var 6)))) (.op .add (.op .sub (.var 3) (.op .mul (.lit 2) (.var 5))) (.var 7))) (.op .sub (.lit 0) (.op .add (.op .sub (.var 3) (.op .mul (.lit 2) (.var 5))) (.var 7)))))):=by kernel_rfl
theorem aGq:eE Try.prog vE = .need (.cmp .lt (.lit 8388608) (.op .mul (.lit 3) (.op .max (.op .max (.op .max (.op .max (.op .max (.op .max (.op .max (.op .max (.lit 0) (.op .add (.op .sub (.var 0) (.op .mul (.lit 2) (.var 2))) (.var 4))) (.op .sub (.lit 0) (.op .add (.op .sub (.var 0) (.op .mul (.lit 2) (.var 2))) (.var 4)))) (.op .add (.op .sub (.var 1) (.op .mul (.lit 2) (.var 3))) (.var 5))) (.op .sub (.lit 0) (.op .add (.op .sub (.var 1) (.op .mul (.lit 2) (.var 3))) (.var 5)))) (.op .add (.op .sub (.var 2) (.op .mul (.lit 2) (.var 4))) (.var 6))) (.op .sub (.lit 0) (.op .add (.op .sub (.var 2) (.op .mul (.lit 2) (.var 4))) (.var 6)))) (.op .add (.op .sub (.var 3) (.op .mul (.lit 2) (.var 5))) (.var 7))) (.op .sub (.lit 0) (.op .add (.op .sub (.var 3) (.op .mul (.lit 2) (.var 5))) (.var 7)))))):=by kernel_rfl
theorem aGS:eE Try.prog tT = .need (.cmp .lt (.lit 33554432) (.op .mul (.lit 3) (.op .max (.op .max (.op .max (.op .max (.op .max (.op .max (.op .max (.op .max (.lit 0) (.op .add (.op .sub (.var 0) (.op .mul (.lit 2) (.var 2))) (.var 4))) (.op .sub (.lit 0) (.op .add (.op .sub (.var 0) (.op .mul (.lit 2) (.var 2))) (.var 4)))) (.op .add (.op .sub (.var 1) (.op .mul (.lit 2) (.var 3))) (.var 5))) (.op .sub (.lit 0) (.op .add (.op .sub (.var 1) (.op .mul (.lit 2) (.var 3))) (.var 5)))) (.op .add (.op .sub (.var 2) (.op .mul (.lit 2) (.var 4))) (.var 6))) (.op .sub (.lit 0) (.op .add (.op .sub (.var 2) (.op .mul (.lit 2) (.var 4))) (.var 6)))) (.op .add (.op .sub (.var 3) (.op .mul (.lit 2) (.var 5))) (.var 7))) (.op .sub (.lit 0) (.op .add (.op .sub (.var 3) (.op .mul (.lit 2) (.var 5))) (.var 7)))))):=by kernel_rfl
theorem aGi:eE Try.prog aGB = .ok (.int .i64 (.lit 6)):=by kernel_rfl
theorem aHJ:eE Try.prog aIc = .ok (.int .i64 (.lit 5)):=by kernel_rfl
theorem aIE:eE Try.prog aHv = .ok (.int .i64 (.lit 4)):=by kernel_rfl
theorem aGl:eE Try.prog aGg = .ok (.int .i64 (.lit 3)):=by kernel_rfl
theorem aEN:eE Try.prog aEM = .ok (.int .i64 (.lit 2)):=by kernel_rfl
theorem aEm:eE Try.prog aEK = .ok (.int .i64 (.lit 1)):=by kernel_rfl
theorem aDW:eE Try.prog aEW = .ok (.int .i64 (.lit 0)):=by kernel_rfl
end Go.Proofs.Ythiehfhphgkaeaa
namespace Go.Proofs.Ythiehfhphgkaeaa
open Go Go.RowKit Sx Wi
set_option maxRecDepth 100000 in
theorem aE5 (x0 x1:Int) (b0:(-4503599627370496)≤x0∧x0≤4503599627370496) (b1:1≤x1∧x1≤262144) (w:World) (hw:WOk GB w):fW Try.prog 29∧Calls Try.prog 29 #[.int .i64 x0,.int .i64 x1] w (fun e w'=>e = .returned (.int .i64 (Fx.near x0 (x1*256)))∧Below w.heap.size w w'):=by
 refine aAc (uF (ρ:=eH [x0,x1]) (run:=fun fs=>aCP Try.prog fs) (fun _=>rfl) fits (dC ⟨b0,b1,trivial⟩) eL (fun X hX hG=>yM hX hG) rfl rfl rZ ?_ w hw)
 refine aM aHB ?_
 refine⟨rfl,?_⟩;simp only[nn]at *;first|rfl|(congr 1;done)
def lY:rV:=fun X args=>
 match args with
 |[.int .i64 a0,.int .i64 a1]=>if a0.lies X (-4503599627370496) 4503599627370496 && a1.lies X 1 262144 then .ok (.int .i64 (.app 2 (.cons a0 (.cons (.op .mul a1 (.lit 256)) .nil)))) else .fail 200
 |_ => .fail 201
theorem aGX {X:Ctx} {ρ:Nat→Int} (hX:X.Ok ρ) (hG:X.G=G):mU Try.prog X ρ GB 29 lY:=by
 obtain⟨XG,XI,XV,XF⟩:=X
 simp only at hG
 subst hG
 intro args s h α w vals hv hw
 unfold lY at h
 split at h
 ·split at h
  ·rename_i hg
   try simp only[Bool.and_eq_true]at hg
   obtain⟨g0,g1⟩:=hg
   cases h
   exact fK hv rfl rfl (aE5 _ _ (E.lies_in hX g0) (E.lies_in hX g1) w hw)
  ·cases h
 ·cases h
set_option maxHeartbeats 4000000 in
set_option maxRecDepth 100000 in
theorem aDE (x0 x1 x2 x3 x4 x5 x6 x7:Int) (b0:(-2147483648)≤x0∧x0≤2147483647) (b1:(-2147483648)≤x1∧x1≤2147483647) (b2:(-2147483648)≤x2∧x2≤2147483647) (b3:(-2147483648)≤x3∧x3≤2147483647) (b4:(-2147483648)≤x4∧x4≤2147483647) (b5:(-2147483648)≤x5∧x5≤2147483647) (b6:(-2147483648)≤x6∧x6≤2147483647) (b7:(-2147483648)≤x7∧x7≤2147483647) (w:World) (hw:WOk GB w):fW Try.prog 24∧Calls Try.prog 24 #[(.agg #[.int .i64 x0,.int .i64 x1,.int .i64 x2,.int .i64 x3,.int .i64 x4,.int .i64 x5,.int .i64 x6,.int .i64 x7])] w (fun e w'=>e = .returned (.int .i64 (iO [x0,x1,x2,x3,x4,x5,x6,x7]))∧Below w.heap.size w w'):=by
 refine aAc (uF (ρ:=eH [x0,x1,x2,x3,x4,x5,x6,x7]) (run:=fun fs=>eE Try.prog fs) (fun _=>rfl) fits (dC ⟨b0,b1,b2,b3,b4,b5,b6,b7,trivial⟩) eL (fun X hX hG=>yM hX hG) rfl rfl rZ ?_ w hw)
 refine kG aHy (fun h0=>?_) (fun h0=>?_)
 rotate_left
 ·skip
  refine aM aDW ?_
  refine⟨rfl,?_⟩;simp only[nn]at *;(try simp only[G,iO]);unfold iM rY;(repeat' split)<;>first|rfl|(exfalso;omega)
 refine kG aHo (fun h1=>?_) (fun h1=>?_)
 rotate_left
 ·skip
  refine aM aEm ?_
  refine⟨rfl,?_⟩;simp only[nn]at *;(try simp only[G,iO]);unfold iM rY;(repeat' split)<;>first|rfl|(exfalso;omega)
 refine kG aHs (fun h2=>?_) (fun h2=>?_)
 rotate_left
 ·skip
  refine aM aEN ?_
  refine⟨rfl,?_⟩;simp only[nn]at *;(try simp only[G,iO]);unfold iM rY;(repeat' split)<;>first|rfl|(exfalso;omega)
 refine kG aIm (fun h3=>?_) (fun h3=>?_)
 rotate_left
 ·skip
  refine aM aGl ?_
  refine⟨rfl,?_⟩;simp only[nn]at *;(try simp only[G,iO]);unfold iM rY;(repeat' split)<;>first|rfl|(exfalso;omega)
 refine kG aGq (fun h4=>?_) (fun h4=>?_)
 rotate_left
 ·skip
  refine aM aIE ?_
  refine⟨rfl,?_⟩;simp only[nn]at *;(try simp only[G,iO]);unfold iM rY;(repeat' split)<;>first|rfl|(exfalso;omega)
 refine kG aGS (fun h5=>?_) (fun h5=>?_)
 ·skip
  refine aM aGi ?_
  refine⟨rfl,?_⟩;simp only[nn]at *;(try simp only[G,iO]);unfold iM rY;(repeat' split)<;>first|rfl|(exfalso;omega)
 refine aM aHJ ?_
 refine⟨rfl,?_⟩;simp only[nn]at *;(try simp only[G,iO]);unfold iM rY;(repeat' split)<;>first|rfl|(exfalso;omega)
def lO:rV:=fun X args=>
 match args with
 |[(.agg [.int .i64 a0,.int .i64 a1,.int .i64 a2,.int .i64 a3,.int .i64 a4,.int .i64 a5,.int .i64 a6,.int .i64 a7])]=>if a0.lies X (-2147483648) 2147483647 && a1.lies X (-2147483648) 2147483647 && a2.lies X (-2147483648) 2147483647 && a3.lies X (-2147483648) 2147483647 && a4.lies X (-2147483648) 2147483647 && a5.lies X (-2147483648) 2147483647 && a6.lies X (-2147483648) 2147483647 && a7.lies X (-2147483648) 2147483647 then .ok (.int .i64 (.app 43 (.cons a0 (.cons a1 (.cons a2 (.cons a3 (.cons a4 (.cons a5 (.cons a6 (.cons a7 .nil)))))))))) else .fail 200
 |_ => .fail 201
theorem aIV {X:Ctx} {ρ:Nat→Int} (hX:X.Ok ρ) (hG:X.G=G):mU Try.prog X ρ GB 24 lO:=by
 obtain⟨XG,XI,XV,XF⟩:=X
 simp only at hG
 subst hG
 intro args s h α w vals hv hw
 unfold lO at h
 split at h
 ·split at h
  ·rename_i hg
   try simp only[Bool.and_eq_true]at hg
   obtain⟨⟨⟨⟨⟨⟨⟨g0,g1⟩,g2⟩,g3⟩,g4⟩,g5⟩,g6⟩,g7⟩:=hg
   cases h
   exact fK hv rfl rfl (aDE _ _ _ _ _ _ _ _ (E.lies_in hX g0) (E.lies_in hX g1) (E.lies_in hX g2) (E.lies_in hX g3) (E.lies_in hX g4) (E.lies_in hX g5) (E.lies_in hX g6) (E.lies_in hX g7) w hw)
  ·cases h
 ·cases h
def aAy:aY:=nH 29 lY aJH
theorem aAY {X:Ctx} {ρ:Nat→Int} (hX:X.Ok ρ) (hG:X.G=G):gP Try.prog X ρ GB aAy:=jX (aGX hX hG) (yM hX hG)
def cW:aY:=nH 24 lO aAy
theorem bQ {X:Ctx} {ρ:Nat→Int} (hX:X.Ok ρ) (hG:X.G=G):gP Try.prog X ρ GB cW:=jX (aIV hX hG) (aAY hX hG)
end Go.Proofs.Ythiehfhphgkaeaa
