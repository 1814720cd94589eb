/- What is proved: the run of a function over its ways,and what is known on each. No condition. -/
import Derived.Test.YtoiecphddchknaaQg6
import Derived.Test.YtoiecphddchknaaQg3
import Derived.Test.YtoiecphddchknaaProg
import Derived.Test.YtoiecphddchknaaQNn
set_option linter.unusedSimpArgs false
set_option linter.unusedVariables false
set_option maxRecDepth 100000
namespace Go.Proofs.Ytoiecphddchknaa
open Go Go.RowKit Sx Wi
def sM (P:Program) (fs:List B):Res SV:=cV G GI [((-9223372036854775808),9223372036854775807)] fs (fun X=>nD P X GB aNv 2000 38 [(.int .i64 (.var 0))])
def aBs:List B:=[]
def aFz:B:=(.cmp .lt (.var 0) (.lit 0))
def aM3:List B:=aM aFz++aBs
def aBE:List B:=aM (B.neg aFz)++aBs
def aFr:B:=(.cmp .lt (.lit 0) (.var 0))
def aLC:List B:=aM aFr++aBE
def aMX:List B:=aM (B.neg aFr)++aBE
theorem aLL:sM Try.prog aBs = .need (.cmp .lt (.var 0) (.lit 0)):=by kernel_rfl
theorem aLJ:sM Try.prog aM3 = .ok (.int .i64 (.lit (-1))):=by kernel_rfl
theorem aNr:sM Try.prog aBE = .need (.cmp .lt (.lit 0) (.var 0)):=by kernel_rfl
theorem aNe:sM Try.prog aLC = .ok (.int .i64 (.lit 1)):=by kernel_rfl
theorem aMR:sM Try.prog aMX = .ok (.int .i64 (.lit 0)):=by kernel_rfl
end Go.Proofs.Ytoiecphddchknaa
set_option maxRecDepth 100000
namespace Go.Proofs.Ytoiecphddchknaa
open Go Go.RowKit Sx Wi
def gA (P:Program) (fs:List B):Res SV:=cV G GI [((-9223372036854775808),9223372036854775807),(0,18446744073709551615),((-9223372036854775808),9223372036854775807),(0,18446744073709551615)] fs (fun X=>nD P X GB aNv 2000 22 [(.agg [(.int .i64 (.var 0)),(.int .u64 (.var 1))]),(.agg [(.int .i64 (.var 2)),(.int .u64 (.var 3))])])
def aBj:List B:=[]
def aGc:B:=(.cmp .lt (.var 0) (.var 2))
def aA8:List B:=aM aGc++aBj
def aGf:B:=(.cmp .lt (.var 1) (.var 3))
def aNx:List B:=aM aGf++aA8
def aBw:List B:=aM (B.neg aGf)++aA8
def aGj:B:=(.cmp .lt (.var 3) (.var 1))
def aNj:List B:=aM aGj++aBw
def aMU:List B:=aM (B.neg aGj)++aBw
def aBu:List B:=aM (B.neg aGc)++aBj
def aFo:B:=(.cmp .lt (.var 2) (.var 0))
def aBS:List B:=aM aFo++aBu
def aFs:B:=(.cmp .lt (.var 1) (.var 3))
def aNl:List B:=aM aFs++aBS
def aAU:List B:=aM (B.neg aFs)++aBS
def aFH:B:=(.cmp .lt (.var 3) (.var 1))
def aIv:List B:=aM aFH++aAU
def aKg:List B:=aM (B.neg aFH)++aAU
def wS:List B:=aM (B.neg aFo)++aBu
def aCP:B:=(.cmp .lt (.var 1) (.var 3))
def aK0:List B:=aM aCP++wS
def yK:List B:=aM (B.neg aCP)++wS
def aCk:B:=(.cmp .lt (.var 3) (.var 1))
def aIB:List B:=aM aCk++yK
def aJV:List B:=aM (B.neg aCk)++yK
theorem aLV:gA Try.prog aBj = .need (.cmp .lt (.var 0) (.var 2)):=by kernel_rfl
theorem aMg:gA Try.prog aA8 = .need (.cmp .lt (.var 1) (.var 3)):=by kernel_rfl
theorem aNi:gA Try.prog aNx = .ok (.int .i64 (.lit (-1))):=by kernel_rfl
theorem aMv:gA Try.prog aBw = .need (.cmp .lt (.var 3) (.var 1)):=by kernel_rfl
theorem aMx:gA Try.prog aNj = .ok (.int .i64 (.lit (-1))):=by kernel_rfl
theorem aNp:gA Try.prog aMU = .ok (.int .i64 (.lit (-1))):=by kernel_rfl
theorem aMb:gA Try.prog aBu = .need (.cmp .lt (.var 2) (.var 0)):=by kernel_rfl
theorem aL1:gA Try.prog aBS = .need (.cmp .lt (.var 1) (.var 3)):=by kernel_rfl
theorem aMt:gA Try.prog aNl = .ok (.int .i64 (.lit 1)):=by kernel_rfl
theorem aMa:gA Try.prog aAU = .need (.cmp .lt (.var 3) (.var 1)):=by kernel_rfl
theorem aKi:gA Try.prog aIv = .ok (.int .i64 (.lit 1)):=by kernel_rfl
theorem aKc:gA Try.prog aKg = .ok (.int .i64 (.lit 1)):=by kernel_rfl
theorem aJB:gA Try.prog wS = .need (.cmp .lt (.var 1) (.var 3)):=by kernel_rfl
theorem aJS:gA Try.prog aK0 = .ok (.int .i64 (.lit (-1))):=by kernel_rfl
theorem aKq:gA Try.prog yK = .need (.cmp .lt (.var 3) (.var 1)):=by kernel_rfl
theorem aKP:gA Try.prog aIB = .ok (.int .i64 (.lit 1)):=by kernel_rfl
theorem aIC:gA Try.prog aJV = .ok (.int .i64 (.lit 0)):=by kernel_rfl
end Go.Proofs.Ytoiecphddchknaa
namespace Go.Proofs.Ytoiecphddchknaa
open Go Go.RowKit Sx Wi
set_option maxRecDepth 100000 in
theorem aK4 (x0:Int) (b0:(-9223372036854775808)≤x0∧x0≤9223372036854775807) (w:World) (hw:WOk GB w):eK Try.prog 38∧Calls Try.prog 38 #[.int .i64 x0] w (fun e w'=>e = .returned (.int .i64 (fK [x0]))∧Below w.heap.size w w'):=by
 refine iU (fO (ρ:=fF [x0]) (run:=fun fs=>sM Try.prog fs) (fun _=>rfl) fits (dO ⟨b0,trivial⟩) iM (fun X hX hG=>aBr hX hG) rfl rfl eS ?_ w hw)
 refine bF aLL (fun h0=>?_) (fun h0=>?_)
 ·skip
  refine aH aLJ ?_
  refine⟨rfl,?_⟩;simp only[nn]at *;simp only[fK];unfold Ed.sg;split<;>(try split)<;>first|rfl|(exfalso;omega)
 refine bF aNr (fun h1=>?_) (fun h1=>?_)
 ·skip
  refine aH aNe ?_
  refine⟨rfl,?_⟩;simp only[nn]at *;simp only[fK];unfold Ed.sg;split<;>(try split)<;>first|rfl|(exfalso;omega)
 refine aH aMR ?_
 refine⟨rfl,?_⟩;simp only[nn]at *;simp only[fK];unfold Ed.sg;split<;>(try split)<;>first|rfl|(exfalso;omega)
def pQ:gW:=fun X args=>
 match args with
 |[.int .i64 a0]=>if a0.fits X .i64 then .ok (.int .i64 (.app 60 (.cons a0 .nil))) else .fail 200
 |_ => .fail 201
theorem aMq {X:Ctx} {ρ:Nat→Int} (hX:X.Ok ρ) (hG:X.G=G):eA Try.prog X ρ GB 38 pQ:=by
 obtain⟨XG,XI,XV,XF⟩:=X
 simp only at hG
 subst hG
 intro args s h α w vals hv hw
 unfold pQ at h
 split at h
 ·split at h
  ·rename_i hg
   try simp only[Bool.and_eq_true]at hg
   have g0:=hg
   cases h
   exact bD hv rfl rfl (aK4 _ (E.fits_in hX g0) w hw)
  ·cases h
 ·cases h
set_option maxRecDepth 100000 in
theorem aCO (x0 x1 x2 x3:Int) (b0:(-9223372036854775808)≤x0∧x0≤9223372036854775807) (b1:0≤x1∧x1≤18446744073709551615) (b2:(-9223372036854775808)≤x2∧x2≤9223372036854775807) (b3:0≤x3∧x3≤18446744073709551615) (w:World) (hw:WOk GB w):eK Try.prog 22∧Calls Try.prog 22 #[(.agg #[.int .i64 x0,.int .u64 x1]),(.agg #[.int .i64 x2,.int .u64 x3])] w (fun e w'=>e = .returned (.int .i64 (dX [x0,x1,x2,x3]))∧Below w.heap.size w w'):=by
 refine iU (fO (ρ:=fF [x0,x1,x2,x3]) (run:=fun fs=>gA Try.prog fs) (fun _=>rfl) fits (dO ⟨b0,b1,b2,b3,trivial⟩) iM (fun X hX hG=>aBr hX hG) rfl rfl eS ?_ w hw)
 refine bF aLV (fun h0=>?_) (fun h0=>?_)
 ·skip
  refine bF aMg (fun h1=>?_) (fun h1=>?_)
  ·skip
   refine aH aNi ?_
   refine⟨rfl,?_⟩;simp only[nn]at *;simp only[dX];(repeat' split)<;>first|rfl|(exfalso;omega)
  refine bF aMv (fun h2=>?_) (fun h2=>?_)
  ·skip
   refine aH aMx ?_
   refine⟨rfl,?_⟩;simp only[nn]at *;simp only[dX];(repeat' split)<;>first|rfl|(exfalso;omega)
  refine aH aNp ?_
  refine⟨rfl,?_⟩;simp only[nn]at *;simp only[dX];(repeat' split)<;>first|rfl|(exfalso;omega)
 refine bF aMb (fun h1=>?_) (fun h1=>?_)
 ·skip
  refine bF aL1 (fun h2=>?_) (fun h2=>?_)
  ·skip
   refine aH aMt ?_
   refine⟨rfl,?_⟩;simp only[nn]at *;simp only[dX];(repeat' split)<;>first|rfl|(exfalso;omega)
  refine bF aMa (fun h3=>?_) (fun h3=>?_)
  ·skip
   refine aH aKi ?_
   refine⟨rfl,?_⟩;simp only[nn]at *;simp only[dX];(repeat' split)<;>first|rfl|(exfalso;omega)
  refine aH aKc ?_
  refine⟨rfl,?_⟩;simp only[nn]at *;simp only[dX];(repeat' split)<;>first|rfl|(exfalso;omega)
 refine bF aJB (fun h2=>?_) (fun h2=>?_)
 ·skip
  refine aH aJS ?_
  refine⟨rfl,?_⟩;simp only[nn]at *;simp only[dX];(repeat' split)<;>first|rfl|(exfalso;omega)
 refine bF aKq (fun h3=>?_) (fun h3=>?_)
 ·skip
  refine aH aKP ?_
  refine⟨rfl,?_⟩;simp only[nn]at *;simp only[dX];(repeat' split)<;>first|rfl|(exfalso;omega)
 refine aH aIC ?_
 refine⟨rfl,?_⟩;simp only[nn]at *;simp only[dX];(repeat' split)<;>first|rfl|(exfalso;omega)
def pH:gW:=fun X args=>
 match args with
 |[(.agg [.int .i64 a0,.int .u64 a1]),(.agg [.int .i64 a2,.int .u64 a3])]=>if a0.fits X .i64 && a1.fits X .u64 && a2.fits X .i64 && a3.fits X .u64 then .ok (.int .i64 (.app 67 (.cons a0 (.cons a1 (.cons a2 (.cons a3 .nil)))))) else .fail 200
 |_ => .fail 201
theorem aMK {X:Ctx} {ρ:Nat→Int} (hX:X.Ok ρ) (hG:X.G=G):eA Try.prog X ρ GB 22 pH:=by
 obtain⟨XG,XI,XV,XF⟩:=X
 simp only at hG
 subst hG
 intro args s h α w vals hv hw
 unfold pH at h
 split at h
 ·split at h
  ·rename_i hg
   try simp only[Bool.and_eq_true]at hg
   obtain⟨⟨⟨g0,g1⟩,g2⟩,g3⟩:=hg
   cases h
   exact bD hv rfl rfl (aCO _ _ _ _ (E.fits_in hX g0) (E.fits_in hX g1) (E.fits_in hX g2) (E.fits_in hX g3) w hw)
  ·cases h
 ·cases h
def aFt:aX:=fD 38 pQ aNv
theorem aEU {X:Ctx} {ρ:Nat→Int} (hX:X.Ok ρ) (hG:X.G=G):gF Try.prog X ρ GB aFt:=cQ (aMq hX hG) (aBr hX hG)
def aBx:aX:=fD 22 pH aFt
theorem vZ {X:Ctx} {ρ:Nat→Int} (hX:X.Ok ρ) (hG:X.G=G):gF Try.prog X ρ GB aBx:=cQ (aMK hX hG) (aEU hX hG)
end Go.Proofs.Ytoiecphddchknaa
set_option maxRecDepth 100000
namespace Go.Proofs.Ytoiecphddchknaa
open Go Go.RowKit Sx Wi
def aCT (P:Program) (fs:List B):Res SV:=cV G GI [((-671088640),671088640),((-671088640),671088640),((-1342177280),1342177280),((-1342177280),1342177280),((-671088640),671088640),((-671088640),671088640)] fs (fun X=>nD P X GB aBx 2000 41 [(.agg [(.int .i64 (.var 0)),(.int .i64 (.var 1)),(.int .i64 (.var 2)),(.int .i64 (.var 3))]),(.agg [(.int .i64 (.var 4)),(.int .i64 (.var 5))])])
def aJy:List B:=[]
def aNE:B:=(.cmp .ne (.app 60 (.cons (.op .sub (.op .mul (.var 2) (.op .sub (.var 5) (.var 1))) (.op .mul (.var 3) (.op .sub (.var 4) (.var 0)))) .nil)) (.lit 0))
def aQh:List B:=aM aNE++aJy
def aJG:List B:=aM (B.neg aNE)++aJy
def aNY:B:=(.cmp .ne (.op .sub (.lit 0) (.app 60 (.cons (.var 3) .nil))) (.lit 0))
def aQr:List B:=aM aNY++aJG
def aKp:List B:=aM (B.neg aNY)++aJG
def aND:B:=(.cmp .ne (.app 60 (.cons (.var 2) .nil)) (.lit 0))
def aP8:List B:=aM aND++aKp
def aPD:List B:=aM (B.neg aND)++aKp
theorem aQy:aCT Try.prog aJy = .need (.cmp .ne (.app 60 (.cons (.op .sub (.op .mul (.var 2) (.op .sub (.var 5) (.var 1))) (.op .mul (.var 3) (.op .sub (.var 4) (.var 0)))) .nil)) (.lit 0)):=by kernel_rfl
theorem aPG:aCT Try.prog aQh = .ok (.int .i64 (.app 60 (.cons (.op .sub (.op .mul (.var 2) (.op .sub (.var 5) (.var 1))) (.op .mul (.var 3) (.op .sub (.var 4) (.var 0)))) .nil))):=by kernel_rfl
theorem aQg:aCT Try.prog aJG = .need (.cmp .ne (.op .sub (.lit 0) (.app 60 (.cons (.var 3) .nil))) (.lit 0)):=by kernel_rfl
theorem aQf:aCT Try.prog aQr = .ok (.int .i64 (.op .sub (.lit 0) (.app 60 (.cons (.var 3) .nil)))):=by kernel_rfl
theorem aPE:aCT Try.prog aKp = .need (.cmp .ne (.app 60 (.cons (.var 2) .nil)) (.lit 0)):=by kernel_rfl
theorem aQB:aCT Try.prog aP8 = .ok (.int .i64 (.app 60 (.cons (.var 2) .nil))):=by kernel_rfl
theorem aP7:aCT Try.prog aPD = .ok (.int .i64 (.lit 0)):=by kernel_rfl
end Go.Proofs.Ytoiecphddchknaa
namespace Go.Proofs.Ytoiecphddchknaa
open Go Go.RowKit Sx Wi
set_option maxRecDepth 100000 in
theorem aPn (x0 x1 x2 x3 x4 x5:Int) (b0:(-671088640)≤x0∧x0≤671088640) (b1:(-671088640)≤x1∧x1≤671088640) (b2:(-1342177280)≤x2∧x2≤1342177280) (b3:(-1342177280)≤x3∧x3≤1342177280) (b4:(-671088640)≤x4∧x4≤671088640) (b5:(-671088640)≤x5∧x5≤671088640) (w:World) (hw:WOk GB w):eK Try.prog 41∧Calls Try.prog 41 #[(.agg #[.int .i64 x0,.int .i64 x1,.int .i64 x2,.int .i64 x3]),(.agg #[.int .i64 x4,.int .i64 x5])] w (fun e w'=>e = .returned (.int .i64 (gU [x0,x1,x2,x3,x4,x5]))∧Below w.heap.size w w'):=by
 refine iU (fO (ρ:=fF [x0,x1,x2,x3,x4,x5]) (run:=fun fs=>aCT Try.prog fs) (fun _=>rfl) fits (dO ⟨b0,b1,b2,b3,b4,b5,trivial⟩) iM (fun X hX hG=>vZ hX hG) rfl rfl eS ?_ w hw)
 refine bF aQy (fun h0=>?_) (fun h0=>?_)
 ·skip
  refine aH aPG ?_
  refine⟨rfl,?_⟩;simp only[nn]at *;(try simp only[G,fK,gU,eV,cN,dX]at *);unfold sd Ed.or3;simp_all
 refine bF aQg (fun h1=>?_) (fun h1=>?_)
 ·skip
  refine aH aQf ?_
  refine⟨rfl,?_⟩;simp only[nn]at *;(try simp only[G,fK,gU,eV,cN,dX]at *);unfold sd Ed.or3;simp_all
 refine bF aPE (fun h2=>?_) (fun h2=>?_)
 ·skip
  refine aH aQB ?_
  refine⟨rfl,?_⟩;simp only[nn]at *;(try simp only[G,fK,gU,eV,cN,dX]at *);unfold sd Ed.or3;simp_all
 refine aH aP7 ?_
 refine⟨rfl,?_⟩;simp only[nn]at *;(try simp only[G,fK,gU,eV,cN,dX]at *);unfold sd Ed.or3;simp_all
def wB:gW:=fun X args=>
 match args with
 |[(.agg [.int .i64 a0,.int .i64 a1,.int .i64 a2,.int .i64 a3]),(.agg [.int .i64 a4,.int .i64 a5])]=>if a0.lies X (-671088640) 671088640 && a1.lies X (-671088640) 671088640 && a2.lies X (-1342177280) 1342177280 && a3.lies X (-1342177280) 1342177280 && a4.lies X (-671088640) 671088640 && a5.lies X (-671088640) 671088640 then .ok (.int .i64 (.app 62 (.cons a0 (.cons a1 (.cons a2 (.cons a3 (.cons a4 (.cons a5 .nil)))))))) else .fail 200
 |_ => .fail 201
theorem aPI {X:Ctx} {ρ:Nat→Int} (hX:X.Ok ρ) (hG:X.G=G):eA Try.prog X ρ GB 41 wB:=by
 obtain⟨XG,XI,XV,XF⟩:=X
 simp only at hG
 subst hG
 intro args s h α w vals hv hw
 unfold wB at h
 split at h
 ·split at h
  ·rename_i hg
   try simp only[Bool.and_eq_true]at hg
   obtain⟨⟨⟨⟨⟨g0,g1⟩,g2⟩,g3⟩,g4⟩,g5⟩:=hg
   cases h
   exact bD hv rfl rfl (aPn _ _ _ _ _ _ (E.lies_in hX g0) (E.lies_in hX g1) (E.lies_in hX g2) (E.lies_in hX g3) (E.lies_in hX g4) (E.lies_in hX g5) w hw)
  ·cases h
 ·cases h
def aFZ:aX:=fD 41 wB aBx
theorem yB {X:Ctx} {ρ:Nat→Int} (hX:X.Ok ρ) (hG:X.G=G):gF Try.prog X ρ GB aFZ:=cQ (aPI hX hG) (vZ hX hG)
end Go.Proofs.Ytoiecphddchknaa
set_option maxRecDepth 100000
namespace Go.Proofs.Ytoiecphddchknaa
open Go Go.RowKit Sx Wi
def cO (P:Program) (fs:List B):Res SV:=cV G GI [((-9223372036854775808),9223372036854775807),((-9223372036854775808),9223372036854775807),((-9223372036854775808),9223372036854775807),((-9223372036854775808),9223372036854775807),((-9223372036854775808),9223372036854775807),((-9223372036854775808),9223372036854775807),((-9223372036854775808),9223372036854775807),((-9223372036854775808),9223372036854775807)] fs (fun X=>nD P X GB aFZ 2000 13 [(.agg [(.int .i64 (.var 0)),(.int .i64 (.var 1)),(.int .i64 (.var 2)),(.int .i64 (.var 3)),(.int .i64 (.var 4)),(.int .i64 (.var 5))]),(.agg [(.int .i64 (.var 6)),(.int .i64 (.var 7))])])
def vY:List B:=[]
def aCi:B:=(.cmp .lt (.lit 671088640) (.op .max (.var 0) (.var 1)))
def aKQ:List B:=aM aCi++vY
def vT:List B:=aM (B.neg aCi)++vY
def aCS:B:=(.cmp .lt (.op .min (.var 0) (.var 1)) (.lit (-671088640)))
def aIX:List B:=aM aCS++vT
def wN:List B:=aM (B.neg aCS)++vT
def aCj:B:=(.cmp .lt (.lit 671088640) (.op .max (.var 2) (.var 3)))
def aJC:List B:=aM aCj++wN
def xU:List B:=aM (B.neg aCj)++wN
def aBZ:B:=(.cmp .lt (.op .min (.var 2) (.var 3)) (.lit (-671088640)))
def aLg:List B:=aM aBZ++xU
def yY:List B:=aM (B.neg aBZ)++xU
def aBX:B:=(.cmp .lt (.lit 671088640) (.op .max (.var 4) (.var 5)))
def aKr:List B:=aM aBX++yY
def tB:List B:=aM (B.neg aBX)++yY
def aAg:B:=(.cmp .lt (.op .min (.var 4) (.var 5)) (.lit (-671088640)))
def aHw:List B:=aM aAg++tB
def tE:List B:=aM (B.neg aAg)++tB
def aAC:B:=(.cmp .eq (.app 60 (.cons (.op .sub (.op .mul (.op .sub (.var 2) (.var 0)) (.op .sub (.var 5) (.var 1))) (.op .mul (.op .sub (.var 3) (.var 1)) (.op .sub (.var 4) (.var 0)))) .nil)) (.lit 0))
def aIg:List B:=aM aAC++tE
def tO:List B:=aM (B.neg aAC)++tE
def aAp:B:=(.cmp .lt (.lit 671088640) (.op .max (.var 6) (.var 7)))
def aHv:List B:=aM aAp++tO
def sU:List B:=aM (B.neg aAp)++tO
def aAx:B:=(.cmp .lt (.op .min (.var 6) (.var 7)) (.lit (-671088640)))
def aHK:List B:=aM aAx++sU
def uA:List B:=aM (B.neg aAx)++sU
def zY:B:=(.cmp .ne (.app 62 (.cons (.var 2) (.cons (.var 3) (.cons (.op .sub (.var 4) (.var 2)) (.cons (.op .sub (.var 5) (.var 3)) (.cons (.var 6) (.cons (.var 7) .nil))))))) (.app 60 (.cons (.op .sub (.op .mul (.op .sub (.var 2) (.var 0)) (.op .sub (.var 5) (.var 1))) (.op .mul (.op .sub (.var 3) (.var 1)) (.op .sub (.var 4) (.var 0)))) .nil)))
def aG1:List B:=aM zY++uA
def sJ:List B:=aM (B.neg zY)++uA
def zZ:B:=(.cmp .ne (.app 62 (.cons (.var 4) (.cons (.var 5) (.cons (.op .sub (.var 0) (.var 4)) (.cons (.op .sub (.var 1) (.var 5)) (.cons (.var 6) (.cons (.var 7) .nil))))))) (.app 60 (.cons (.op .sub (.op .mul (.op .sub (.var 2) (.var 0)) (.op .sub (.var 5) (.var 1))) (.op .mul (.op .sub (.var 3) (.var 1)) (.op .sub (.var 4) (.var 0)))) .nil)))
def aGT:List B:=aM zZ++sJ
def tP:List B:=aM (B.neg zZ)++sJ
def aAF:B:=(.cmp .ne (.app 62 (.cons (.var 0) (.cons (.var 1) (.cons (.op .sub (.var 2) (.var 0)) (.cons (.op .sub (.var 3) (.var 1)) (.cons (.var 6) (.cons (.var 7) .nil))))))) (.app 60 (.cons (.op .sub (.op .mul (.op .sub (.var 2) (.var 0)) (.op .sub (.var 5) (.var 1))) (.op .mul (.op .sub (.var 3) (.var 1)) (.op .sub (.var 4) (.var 0)))) .nil)))
def aHR:List B:=aM aAF++tP
def aHZ:List B:=aM (B.neg aAF)++tP
theorem aJW:cO Try.prog vY = .need (.cmp .lt (.lit 671088640) (.op .max (.var 0) (.var 1))):=by kernel_rfl
theorem aIK:cO Try.prog aKQ = .ok (.int .i64 (.lit 0)):=by kernel_rfl
theorem aIE:cO Try.prog vT = .need (.cmp .lt (.op .min (.var 0) (.var 1)) (.lit (-671088640))):=by kernel_rfl
theorem aJM:cO Try.prog aIX = .ok (.int .i64 (.lit 0)):=by kernel_rfl
theorem aJa:cO Try.prog wN = .need (.cmp .lt (.lit 671088640) (.op .max (.var 2) (.var 3))):=by kernel_rfl
theorem aJP:cO Try.prog aJC = .ok (.int .i64 (.lit 0)):=by kernel_rfl
theorem aI0:cO Try.prog xU = .need (.cmp .lt (.op .min (.var 2) (.var 3)) (.lit (-671088640))):=by kernel_rfl
theorem aIM:cO Try.prog aLg = .ok (.int .i64 (.lit 0)):=by kernel_rfl
theorem aJl:cO Try.prog yY = .need (.cmp .lt (.lit 671088640) (.op .max (.var 4) (.var 5))):=by kernel_rfl
theorem aKA:cO Try.prog aKr = .ok (.int .i64 (.lit 0)):=by kernel_rfl
theorem aHi:cO Try.prog tB = .need (.cmp .lt (.op .min (.var 4) (.var 5)) (.lit (-671088640))):=by kernel_rfl
theorem aHG:cO Try.prog aHw = .ok (.int .i64 (.lit 0)):=by kernel_rfl
theorem aH4:cO Try.prog tE = .need (.cmp .eq (.app 60 (.cons (.op .sub (.op .mul (.op .sub (.var 2) (.var 0)) (.op .sub (.var 5) (.var 1))) (.op .mul (.op .sub (.var 3) (.var 1)) (.op .sub (.var 4) (.var 0)))) .nil)) (.lit 0)):=by kernel_rfl
theorem aH3:cO Try.prog aIg = .ok (.int .i64 (.lit 0)):=by kernel_rfl
theorem aGR:cO Try.prog tO = .need (.cmp .lt (.lit 671088640) (.op .max (.var 6) (.var 7))):=by kernel_rfl
theorem aG4:cO Try.prog aHv = .ok (.int .i64 (.lit 0)):=by kernel_rfl
theorem aHz:cO Try.prog sU = .need (.cmp .lt (.op .min (.var 6) (.var 7)) (.lit (-671088640))):=by kernel_rfl
theorem aHO:cO Try.prog aHK = .ok (.int .i64 (.lit 0)):=by kernel_rfl
theorem aHA:cO Try.prog uA = .need (.cmp .ne (.app 62 (.cons (.var 2) (.cons (.var 3) (.cons (.op .sub (.var 4) (.var 2)) (.cons (.op .sub (.var 5) (.var 3)) (.cons (.var 6) (.cons (.var 7) .nil))))))) (.app 60 (.cons (.op .sub (.op .mul (.op .sub (.var 2) (.var 0)) (.op .sub (.var 5) (.var 1))) (.op .mul (.op .sub (.var 3) (.var 1)) (.op .sub (.var 4) (.var 0)))) .nil))):=by kernel_rfl
theorem aHs:cO Try.prog aG1 = .ok (.int .i64 (.lit 0)):=by kernel_rfl
theorem aHL:cO Try.prog sJ = .need (.cmp .ne (.app 62 (.cons (.var 4) (.cons (.var 5) (.cons (.op .sub (.var 0) (.var 4)) (.cons (.op .sub (.var 1) (.var 5)) (.cons (.var 6) (.cons (.var 7) .nil))))))) (.app 60 (.cons (.op .sub (.op .mul (.op .sub (.var 2) (.var 0)) (.op .sub (.var 5) (.var 1))) (.op .mul (.op .sub (.var 3) (.var 1)) (.op .sub (.var 4) (.var 0)))) .nil))):=by kernel_rfl
theorem aGZ:cO Try.prog aGT = .ok (.int .i64 (.lit 0)):=by kernel_rfl
theorem aG0:cO Try.prog tP = .need (.cmp .ne (.app 62 (.cons (.var 0) (.cons (.var 1) (.cons (.op .sub (.var 2) (.var 0)) (.cons (.op .sub (.var 3) (.var 1)) (.cons (.var 6) (.cons (.var 7) .nil))))))) (.app 60 (.cons (.op .sub (.op .mul (.op .sub (.var 2) (.var 0)) (.op .sub (.var 5) (.var 1))) (.op .mul (.op .sub (.var 3) (.var 1)) (.op .sub (.var 4) (.var 0)))) .nil))):=by kernel_rfl
theorem aGS:cO Try.prog aHR = .ok (.int .i64 (.lit 0)):=by kernel_rfl
theorem aHr:cO Try.prog aHZ = .ok (.int .i64 (.app 60 (.cons (.op .sub (.op .mul (.op .sub (.var 2) (.var 0)) (.op .sub (.var 5) (.var 1))) (.op .mul (.op .sub (.var 3) (.var 1)) (.op .sub (.var 4) (.var 0)))) .nil))):=by kernel_rfl
end Go.Proofs.Ytoiecphddchknaa
set_option maxRecDepth 100000
namespace Go.Proofs.Ytoiecphddchknaa
open Go Go.RowKit Sx Wi
def nE (P:Program) (fs:List B):Res SV:=cV G GI [((-9223372036854775808),9223372036854775807),((-9223372036854775808),9223372036854775807),((-9223372036854775808),9223372036854775807),((-9223372036854775808),9223372036854775807),((-9223372036854775808),9223372036854775807),((-9223372036854775808),9223372036854775807),((-9223372036854775808),9223372036854775807),((-9223372036854775808),9223372036854775807)] fs (fun X=>nD P X GB aFZ 2000 16 [(.agg [(.int .i64 (.var 0)),(.int .i64 (.var 1)),(.int .i64 (.var 2)),(.int .i64 (.var 3)),(.int .i64 (.var 4)),(.int .i64 (.var 5))]),(.agg [(.int .i64 (.var 6)),(.int .i64 (.var 7))])])
def aLk:List B:=[]
def aNJ:B:=(.cmp .lt (.lit 671088640) (.op .max (.var 0) (.var 1)))
def aQe:List B:=aM aNJ++aLk
def aKb:List B:=aM (B.neg aNJ)++aLk
def aNT:B:=(.cmp .lt (.op .min (.var 0) (.var 1)) (.lit (-671088640)))
def aPX:List B:=aM aNT++aKb
def aKL:List B:=aM (B.neg aNT)++aKb
def aNL:B:=(.cmp .lt (.lit 671088640) (.op .max (.var 2) (.var 3)))
def aPC:List B:=aM aNL++aKL
def aKn:List B:=aM (B.neg aNL)++aKL
def aNR:B:=(.cmp .lt (.op .min (.var 2) (.var 3)) (.lit (-671088640)))
def aQu:List B:=aM aNR++aKn
def aKt:List B:=aM (B.neg aNR)++aKn
def aN1:B:=(.cmp .lt (.lit 671088640) (.op .max (.var 4) (.var 5)))
def aP0:List B:=aM aN1++aKt
def aEj:List B:=aM (B.neg aN1)++aKt
def aIq:B:=(.cmp .lt (.op .min (.var 4) (.var 5)) (.lit (-671088640)))
def aOZ:List B:=aM aIq++aEj
def aEB:List B:=aM (B.neg aIq)++aEj
def aJd:B:=(.cmp .lt (.lit 671088640) (.op .max (.var 6) (.var 7)))
def aOr:List B:=aM aJd++aEB
def aDf:List B:=aM (B.neg aJd)++aEB
def aLn:B:=(.cmp .lt (.op .min (.var 6) (.var 7)) (.lit (-671088640)))
def aO9:List B:=aM aLn++aDf
def aOw:List B:=aM (B.neg aLn)++aDf
theorem aP4:nE Try.prog aLk = .need (.cmp .lt (.lit 671088640) (.op .max (.var 0) (.var 1))):=by kernel_rfl
theorem aQj:nE Try.prog aQe = .ok (.agg [(.int .i64 (.lit 0)),(.int .i64 (.lit 0)),(.int .i64 (.lit 0))]):=by kernel_rfl
theorem aQt:nE Try.prog aKb = .need (.cmp .lt (.op .min (.var 0) (.var 1)) (.lit (-671088640))):=by kernel_rfl
theorem aQp:nE Try.prog aPX = .ok (.agg [(.int .i64 (.lit 0)),(.int .i64 (.lit 0)),(.int .i64 (.lit 0))]):=by kernel_rfl
theorem aQb:nE Try.prog aKL = .need (.cmp .lt (.lit 671088640) (.op .max (.var 2) (.var 3))):=by kernel_rfl
theorem aQd:nE Try.prog aPC = .ok (.agg [(.int .i64 (.lit 0)),(.int .i64 (.lit 0)),(.int .i64 (.lit 0))]):=by kernel_rfl
theorem aQi:nE Try.prog aKn = .need (.cmp .lt (.op .min (.var 2) (.var 3)) (.lit (-671088640))):=by kernel_rfl
theorem aQC:nE Try.prog aQu = .ok (.agg [(.int .i64 (.lit 0)),(.int .i64 (.lit 0)),(.int .i64 (.lit 0))]):=by kernel_rfl
theorem aQq:nE Try.prog aKt = .need (.cmp .lt (.lit 671088640) (.op .max (.var 4) (.var 5))):=by kernel_rfl
theorem aPV:nE Try.prog aP0 = .ok (.agg [(.int .i64 (.lit 0)),(.int .i64 (.lit 0)),(.int .i64 (.lit 0))]):=by kernel_rfl
theorem aOi:nE Try.prog aEj = .need (.cmp .lt (.op .min (.var 4) (.var 5)) (.lit (-671088640))):=by kernel_rfl
theorem aOe:nE Try.prog aOZ = .ok (.agg [(.int .i64 (.lit 0)),(.int .i64 (.lit 0)),(.int .i64 (.lit 0))]):=by kernel_rfl
theorem aOd:nE Try.prog aEB = .need (.cmp .lt (.lit 671088640) (.op .max (.var 6) (.var 7))):=by kernel_rfl
theorem aOE:nE Try.prog aOr = .ok (.agg [(.int .i64 (.lit 0)),(.int .i64 (.lit 0)),(.int .i64 (.lit 0))]):=by kernel_rfl
theorem aO5:nE Try.prog aDf = .need (.cmp .lt (.op .min (.var 6) (.var 7)) (.lit (-671088640))):=by kernel_rfl
theorem aPg:nE Try.prog aO9 = .ok (.agg [(.int .i64 (.lit 0)),(.int .i64 (.lit 0)),(.int .i64 (.lit 0))]):=by kernel_rfl
theorem aPz:nE Try.prog aOw = .ok (.agg [(.int .i64 (.op .sub (.op .mul (.op .sub (.var 4) (.var 2)) (.op .sub (.var 7) (.var 3))) (.op .mul (.op .sub (.var 5) (.var 3)) (.op .sub (.var 6) (.var 2))))),(.int .i64 (.op .sub (.op .mul (.op .sub (.var 0) (.var 4)) (.op .sub (.var 7) (.var 5))) (.op .mul (.op .sub (.var 1) (.var 5)) (.op .sub (.var 6) (.var 4))))),(.int .i64 (.op .sub (.op .mul (.op .sub (.var 2) (.var 0)) (.op .sub (.var 7) (.var 1))) (.op .mul (.op .sub (.var 3) (.var 1)) (.op .sub (.var 6) (.var 0)))))]):=by kernel_rfl
end Go.Proofs.Ytoiecphddchknaa
namespace Go.Proofs.Ytoiecphddchknaa
open Go Go.RowKit Sx Wi
set_option maxHeartbeats 1000000 in
set_option maxRecDepth 100000 in
theorem aHY (x0 x1 x2 x3 x4 x5 x6 x7:Int) (b0:(-9223372036854775808)≤x0∧x0≤9223372036854775807) (b1:(-9223372036854775808)≤x1∧x1≤9223372036854775807) (b2:(-9223372036854775808)≤x2∧x2≤9223372036854775807) (b3:(-9223372036854775808)≤x3∧x3≤9223372036854775807) (b4:(-9223372036854775808)≤x4∧x4≤9223372036854775807) (b5:(-9223372036854775808)≤x5∧x5≤9223372036854775807) (b6:(-9223372036854775808)≤x6∧x6≤9223372036854775807) (b7:(-9223372036854775808)≤x7∧x7≤9223372036854775807) (w:World) (hw:WOk GB w):eK Try.prog 13∧Calls Try.prog 13 #[(.agg #[.int .i64 x0,.int .i64 x1,.int .i64 x2,.int .i64 x3,.int .i64 x4,.int .i64 x5]),(.agg #[.int .i64 x6,.int .i64 x7])] w (fun e w'=>e = .returned (.int .i64 (eV [x0,x1,x2,x3,x4,x5,x6,x7]))∧Below w.heap.size w w'):=by
 refine iU (fO (ρ:=fF [x0,x1,x2,x3,x4,x5,x6,x7]) (run:=fun fs=>cO Try.prog fs) (fun _=>rfl) fits (dO ⟨b0,b1,b2,b3,b4,b5,b6,b7,trivial⟩) iM (fun X hX hG=>yB hX hG) rfl rfl eS ?_ w hw)
 refine bF aJW (fun h0=>?_) (fun h0=>?_)
 ·skip
  refine aH aIK ?_
  refine⟨rfl,?_⟩;simp only[nn]at *;(try simp only[G,fK,gU,eV,cN,dX]at *);congr 1;rw[eC];unfold Ed.ok Ed.cross;dsimp only;(repeat' split)<;>first|rfl|(exfalso;omega)|contradiction|(simp_all;done)
 refine bF aIE (fun h1=>?_) (fun h1=>?_)
 ·skip
  refine aH aJM ?_
  refine⟨rfl,?_⟩;simp only[nn]at *;(try simp only[G,fK,gU,eV,cN,dX]at *);congr 1;rw[eC];unfold Ed.ok Ed.cross;dsimp only;(repeat' split)<;>first|rfl|(exfalso;omega)|contradiction|(simp_all;done)
 refine bF aJa (fun h2=>?_) (fun h2=>?_)
 ·skip
  refine aH aJP ?_
  refine⟨rfl,?_⟩;simp only[nn]at *;(try simp only[G,fK,gU,eV,cN,dX]at *);congr 1;rw[eC];unfold Ed.ok Ed.cross;dsimp only;(repeat' split)<;>first|rfl|(exfalso;omega)|contradiction|(simp_all;done)
 refine bF aI0 (fun h3=>?_) (fun h3=>?_)
 ·skip
  refine aH aIM ?_
  refine⟨rfl,?_⟩;simp only[nn]at *;(try simp only[G,fK,gU,eV,cN,dX]at *);congr 1;rw[eC];unfold Ed.ok Ed.cross;dsimp only;(repeat' split)<;>first|rfl|(exfalso;omega)|contradiction|(simp_all;done)
 refine bF aJl (fun h4=>?_) (fun h4=>?_)
 ·skip
  refine aH aKA ?_
  refine⟨rfl,?_⟩;simp only[nn]at *;(try simp only[G,fK,gU,eV,cN,dX]at *);congr 1;rw[eC];unfold Ed.ok Ed.cross;dsimp only;(repeat' split)<;>first|rfl|(exfalso;omega)|contradiction|(simp_all;done)
 refine bF aHi (fun h5=>?_) (fun h5=>?_)
 ·skip
  refine aH aHG ?_
  refine⟨rfl,?_⟩;simp only[nn]at *;(try simp only[G,fK,gU,eV,cN,dX]at *);congr 1;rw[eC];unfold Ed.ok Ed.cross;dsimp only;(repeat' split)<;>first|rfl|(exfalso;omega)|contradiction|(simp_all;done)
 refine bF aH4 (fun h6=>?_) (fun h6=>?_)
 ·skip
  refine aH aH3 ?_
  refine⟨rfl,?_⟩;simp only[nn]at *;(try simp only[G,fK,gU,eV,cN,dX]at *);congr 1;rw[eC];unfold Ed.ok Ed.cross;dsimp only;(repeat' split)<;>first|rfl|(exfalso;omega)|contradiction|(simp_all;done)
 refine bF aGR (fun h7=>?_) (fun h7=>?_)
 ·skip
  refine aH aG4 ?_
  refine⟨rfl,?_⟩;simp only[nn]at *;(try simp only[G,fK,gU,eV,cN,dX]at *);congr 1;rw[eC];unfold Ed.ok Ed.cross;dsimp only;(repeat' split)<;>first|rfl|(exfalso;omega)|contradiction|(simp_all;done)
 refine bF aHz (fun h8=>?_) (fun h8=>?_)
 ·skip
  refine aH aHO ?_
  refine⟨rfl,?_⟩;simp only[nn]at *;(try simp only[G,fK,gU,eV,cN,dX]at *);congr 1;rw[eC];unfold Ed.ok Ed.cross;dsimp only;(repeat' split)<;>first|rfl|(exfalso;omega)|contradiction|(simp_all;done)
 refine bF aHA (fun h9=>?_) (fun h9=>?_)
 ·skip
  refine aH aHs ?_
  refine⟨rfl,?_⟩;simp only[nn]at *;(try simp only[G,fK,gU,eV,cN,dX]at *);congr 1;rw[eC];unfold Ed.ok Ed.cross;dsimp only;(repeat' split)<;>first|rfl|(exfalso;omega)|contradiction|(simp_all;done)
 refine bF aHL (fun h10=>?_) (fun h10=>?_)
 ·skip
  refine aH aGZ ?_
  refine⟨rfl,?_⟩;simp only[nn]at *;(try simp only[G,fK,gU,eV,cN,dX]at *);congr 1;rw[eC];unfold Ed.ok Ed.cross;dsimp only;(repeat' split)<;>first|rfl|(exfalso;omega)|contradiction|(simp_all;done)
 refine bF aG0 (fun h11=>?_) (fun h11=>?_)
 ·skip
  refine aH aGS ?_
  refine⟨rfl,?_⟩;simp only[nn]at *;(try simp only[G,fK,gU,eV,cN,dX]at *);congr 1;rw[eC];unfold Ed.ok Ed.cross;dsimp only;(repeat' split)<;>first|rfl|(exfalso;omega)|contradiction|(simp_all;done)
 refine aH aHr ?_
 refine⟨rfl,?_⟩;simp only[nn]at *;(try simp only[G,fK,gU,eV,cN,dX]at *);congr 1;rw[eC];unfold Ed.ok Ed.cross;dsimp only;(repeat' split)<;>first|rfl|(exfalso;omega)|contradiction|(simp_all;done)
def nI:gW:=fun X args=>
 match args with
 |[(.agg [.int .i64 a0,.int .i64 a1,.int .i64 a2,.int .i64 a3,.int .i64 a4,.int .i64 a5]),(.agg [.int .i64 a6,.int .i64 a7])]=>if a0.fits X .i64 && a1.fits X .i64 && a2.fits X .i64 && a3.fits X .i64 && a4.fits X .i64 && a5.fits X .i64 && a6.fits X .i64 && a7.fits X .i64 then .ok (.int .i64 (.app 63 (.cons a0 (.cons a1 (.cons a2 (.cons a3 (.cons a4 (.cons a5 (.cons a6 (.cons a7 .nil)))))))))) else .fail 200
 |_ => .fail 201
theorem aIs {X:Ctx} {ρ:Nat→Int} (hX:X.Ok ρ) (hG:X.G=G):eA Try.prog X ρ GB 13 nI:=by
 obtain⟨XG,XI,XV,XF⟩:=X
 simp only at hG
 subst hG
 intro args s h α w vals hv hw
 unfold nI at h
 split at h
 ·split at h
  ·rename_i hg
   try simp only[Bool.and_eq_true]at hg
   obtain⟨⟨⟨⟨⟨⟨⟨g0,g1⟩,g2⟩,g3⟩,g4⟩,g5⟩,g6⟩,g7⟩:=hg
   cases h
   exact bD hv rfl rfl (aHY _ _ _ _ _ _ _ _ (E.fits_in hX g0) (E.fits_in hX g1) (E.fits_in hX g2) (E.fits_in hX g3) (E.fits_in hX g4) (E.fits_in hX g5) (E.fits_in hX g6) (E.fits_in hX g7) w hw)
  ·cases h
 ·cases h
set_option maxRecDepth 100000 in
theorem aOP (x0 x1 x2 x3 x4 x5 x6 x7:Int) (b0:(-9223372036854775808)≤x0∧x0≤9223372036854775807) (b1:(-9223372036854775808)≤x1∧x1≤9223372036854775807) (b2:(-9223372036854775808)≤x2∧x2≤9223372036854775807) (b3:(-9223372036854775808)≤x3∧x3≤9223372036854775807) (b4:(-9223372036854775808)≤x4∧x4≤9223372036854775807) (b5:(-9223372036854775808)≤x5∧x5≤9223372036854775807) (b6:(-9223372036854775808)≤x6∧x6≤9223372036854775807) (b7:(-9223372036854775808)≤x7∧x7≤9223372036854775807) (w:World) (hw:WOk GB w):eK Try.prog 16∧Calls Try.prog 16 #[(.agg #[.int .i64 x0,.int .i64 x1,.int .i64 x2,.int .i64 x3,.int .i64 x4,.int .i64 x5]),(.agg #[.int .i64 x6,.int .i64 x7])] w (fun e w'=>e = .returned (.agg #[.int .i64 (cN 0 [x0,x1,x2,x3,x4,x5,x6,x7]),.int .i64 (cN 1 [x0,x1,x2,x3,x4,x5,x6,x7]),.int .i64 (cN 2 [x0,x1,x2,x3,x4,x5,x6,x7])])∧Below w.heap.size w w'):=by
 refine iU (fO (ρ:=fF [x0,x1,x2,x3,x4,x5,x6,x7]) (run:=fun fs=>nE Try.prog fs) (fun _=>rfl) fits (dO ⟨b0,b1,b2,b3,b4,b5,b6,b7,trivial⟩) iM (fun X hX hG=>yB hX hG) rfl rfl eS ?_ w hw)
 refine bF aP4 (fun h0=>?_) (fun h0=>?_)
 ·skip
  refine aH aQj ?_
  refine⟨rfl,?_⟩;simp only[nn]at *;(try simp only[G,fK,gU,eV,cN,dX]at *);first|(have hk:¬fB ⟨x0,x1⟩ ⟨x2,x3⟩ ⟨x4,x5⟩ ⟨x6,x7⟩:=(by unfold fB Ed.ok;dsimp only;omega);simp only[wt,if_neg hk])|(have hk:fB ⟨x0,x1⟩ ⟨x2,x3⟩ ⟨x4,x5⟩ ⟨x6,x7⟩:=(by unfold fB Ed.ok;dsimp only;omega);simp only[wt,if_pos hk,Ed.cross];rfl)
 refine bF aQt (fun h1=>?_) (fun h1=>?_)
 ·skip
  refine aH aQp ?_
  refine⟨rfl,?_⟩;simp only[nn]at *;(try simp only[G,fK,gU,eV,cN,dX]at *);first|(have hk:¬fB ⟨x0,x1⟩ ⟨x2,x3⟩ ⟨x4,x5⟩ ⟨x6,x7⟩:=(by unfold fB Ed.ok;dsimp only;omega);simp only[wt,if_neg hk])|(have hk:fB ⟨x0,x1⟩ ⟨x2,x3⟩ ⟨x4,x5⟩ ⟨x6,x7⟩:=(by unfold fB Ed.ok;dsimp only;omega);simp only[wt,if_pos hk,Ed.cross];rfl)
 refine bF aQb (fun h2=>?_) (fun h2=>?_)
 ·skip
  refine aH aQd ?_
  refine⟨rfl,?_⟩;simp only[nn]at *;(try simp only[G,fK,gU,eV,cN,dX]at *);first|(have hk:¬fB ⟨x0,x1⟩ ⟨x2,x3⟩ ⟨x4,x5⟩ ⟨x6,x7⟩:=(by unfold fB Ed.ok;dsimp only;omega);simp only[wt,if_neg hk])|(have hk:fB ⟨x0,x1⟩ ⟨x2,x3⟩ ⟨x4,x5⟩ ⟨x6,x7⟩:=(by unfold fB Ed.ok;dsimp only;omega);simp only[wt,if_pos hk,Ed.cross];rfl)
 refine bF aQi (fun h3=>?_) (fun h3=>?_)
 ·skip
  refine aH aQC ?_
  refine⟨rfl,?_⟩;simp only[nn]at *;(try simp only[G,fK,gU,eV,cN,dX]at *);first|(have hk:¬fB ⟨x0,x1⟩ ⟨x2,x3⟩ ⟨x4,x5⟩ ⟨x6,x7⟩:=(by unfold fB Ed.ok;dsimp only;omega);simp only[wt,if_neg hk])|(have hk:fB ⟨x0,x1⟩ ⟨x2,x3⟩ ⟨x4,x5⟩ ⟨x6,x7⟩:=(by unfold fB Ed.ok;dsimp only;omega);simp only[wt,if_pos hk,Ed.cross];rfl)
 refine bF aQq (fun h4=>?_) (fun h4=>?_)
 ·skip
  refine aH aPV ?_
  refine⟨rfl,?_⟩;simp only[nn]at *;(try simp only[G,fK,gU,eV,cN,dX]at *);first|(have hk:¬fB ⟨x0,x1⟩ ⟨x2,x3⟩ ⟨x4,x5⟩ ⟨x6,x7⟩:=(by unfold fB Ed.ok;dsimp only;omega);simp only[wt,if_neg hk])|(have hk:fB ⟨x0,x1⟩ ⟨x2,x3⟩ ⟨x4,x5⟩ ⟨x6,x7⟩:=(by unfold fB Ed.ok;dsimp only;omega);simp only[wt,if_pos hk,Ed.cross];rfl)
 refine bF aOi (fun h5=>?_) (fun h5=>?_)
 ·skip
  refine aH aOe ?_
  refine⟨rfl,?_⟩;simp only[nn]at *;(try simp only[G,fK,gU,eV,cN,dX]at *);first|(have hk:¬fB ⟨x0,x1⟩ ⟨x2,x3⟩ ⟨x4,x5⟩ ⟨x6,x7⟩:=(by unfold fB Ed.ok;dsimp only;omega);simp only[wt,if_neg hk])|(have hk:fB ⟨x0,x1⟩ ⟨x2,x3⟩ ⟨x4,x5⟩ ⟨x6,x7⟩:=(by unfold fB Ed.ok;dsimp only;omega);simp only[wt,if_pos hk,Ed.cross];rfl)
 refine bF aOd (fun h6=>?_) (fun h6=>?_)
 ·skip
  refine aH aOE ?_
  refine⟨rfl,?_⟩;simp only[nn]at *;(try simp only[G,fK,gU,eV,cN,dX]at *);first|(have hk:¬fB ⟨x0,x1⟩ ⟨x2,x3⟩ ⟨x4,x5⟩ ⟨x6,x7⟩:=(by unfold fB Ed.ok;dsimp only;omega);simp only[wt,if_neg hk])|(have hk:fB ⟨x0,x1⟩ ⟨x2,x3⟩ ⟨x4,x5⟩ ⟨x6,x7⟩:=(by unfold fB Ed.ok;dsimp only;omega);simp only[wt,if_pos hk,Ed.cross];rfl)
 refine bF aO5 (fun h7=>?_) (fun h7=>?_)
 ·skip
  refine aH aPg ?_
  refine⟨rfl,?_⟩;simp only[nn]at *;(try simp only[G,fK,gU,eV,cN,dX]at *);first|(have hk:¬fB ⟨x0,x1⟩ ⟨x2,x3⟩ ⟨x4,x5⟩ ⟨x6,x7⟩:=(by unfold fB Ed.ok;dsimp only;omega);simp only[wt,if_neg hk])|(have hk:fB ⟨x0,x1⟩ ⟨x2,x3⟩ ⟨x4,x5⟩ ⟨x6,x7⟩:=(by unfold fB Ed.ok;dsimp only;omega);simp only[wt,if_pos hk,Ed.cross];rfl)
 refine aH aPz ?_
 refine⟨rfl,?_⟩;simp only[nn]at *;(try simp only[G,fK,gU,eV,cN,dX]at *);first|(have hk:¬fB ⟨x0,x1⟩ ⟨x2,x3⟩ ⟨x4,x5⟩ ⟨x6,x7⟩:=(by unfold fB Ed.ok;dsimp only;omega);simp only[wt,if_neg hk])|(have hk:fB ⟨x0,x1⟩ ⟨x2,x3⟩ ⟨x4,x5⟩ ⟨x6,x7⟩:=(by unfold fB Ed.ok;dsimp only;omega);simp only[wt,if_pos hk,Ed.cross];rfl)
def xT:gW:=fun X args=>
 match args with
 |[(.agg [.int .i64 a0,.int .i64 a1,.int .i64 a2,.int .i64 a3,.int .i64 a4,.int .i64 a5]),(.agg [.int .i64 a6,.int .i64 a7])]=>if a0.fits X .i64 && a1.fits X .i64 && a2.fits X .i64 && a3.fits X .i64 && a4.fits X .i64 && a5.fits X .i64 && a6.fits X .i64 && a7.fits X .i64 then .ok (.agg [.int .i64 (.app 64 (.cons a0 (.cons a1 (.cons a2 (.cons a3 (.cons a4 (.cons a5 (.cons a6 (.cons a7 .nil))))))))),.int .i64 (.app 65 (.cons a0 (.cons a1 (.cons a2 (.cons a3 (.cons a4 (.cons a5 (.cons a6 (.cons a7 .nil))))))))),.int .i64 (.app 66 (.cons a0 (.cons a1 (.cons a2 (.cons a3 (.cons a4 (.cons a5 (.cons a6 (.cons a7 .nil)))))))))]) else .fail 200
 |_ => .fail 201
theorem aPT {X:Ctx} {ρ:Nat→Int} (hX:X.Ok ρ) (hG:X.G=G):eA Try.prog X ρ GB 16 xT:=by
 obtain⟨XG,XI,XV,XF⟩:=X
 simp only at hG
 subst hG
 intro args s h α w vals hv hw
 unfold xT at h
 split at h
 ·split at h
  ·rename_i hg
   try simp only[Bool.and_eq_true]at hg
   obtain⟨⟨⟨⟨⟨⟨⟨g0,g1⟩,g2⟩,g3⟩,g4⟩,g5⟩,g6⟩,g7⟩:=hg
   cases h
   exact bD hv rfl rfl (aOP _ _ _ _ _ _ _ _ (E.fits_in hX g0) (E.fits_in hX g1) (E.fits_in hX g2) (E.fits_in hX g3) (E.fits_in hX g4) (E.fits_in hX g5) (E.fits_in hX g6) (E.fits_in hX g7) w hw)
  ·cases h
 ·cases h
def aCB:aX:=fD 13 nI aFZ
theorem aCg {X:Ctx} {ρ:Nat→Int} (hX:X.Ok ρ) (hG:X.G=G):gF Try.prog X ρ GB aCB:=cQ (aIs hX hG) (yB hX hG)
def aJ2:aX:=fD 16 xT aCB
theorem aBV {X:Ctx} {ρ:Nat→Int} (hX:X.Ok ρ) (hG:X.G=G):gF Try.prog X ρ GB aJ2:=cQ (aPT hX hG) (aCg hX hG)
theorem aEy {x y:Int} (h:x<y):dX [hi x,lo x,hi y,lo y] = -1:=by
 unfold hi lo;simp only[dX]
 by_cases a:x / 18446744073709551616<y / 18446744073709551616
 ·rw[if_pos a]
 ·rw[if_neg a,if_neg (by omega),if_pos (by omega)]
theorem aJ3 (x:Int):dX [hi x,lo x,hi x,lo x]=0:=by
 simp only[dX]
 rw[if_neg (by omega),if_neg (by omega),if_neg (by omega),if_neg (by omega)]
theorem aDk {x y:Int} (h:y<x):dX [hi x,lo x,hi y,lo y]=1:=by
 unfold hi lo;simp only[dX]
 by_cases a:y / 18446744073709551616<x / 18446744073709551616
 ·rw[if_neg (by omega),if_pos a]
 ·rw[if_neg (by omega),if_neg a,if_neg (by omega),if_pos (by omega)]
theorem aOF (x y:Int):dX [hi x,lo x,hi y,lo y]=fK [x-y]:=by
 rcases Int.lt_trichotomy x y with h|h|h
 ·rw[aEy h];simp only[fK];unfold Ed.sg;rw[if_pos (by omega)]
 ·subst h;rw[aJ3];simp only[fK];unfold Ed.sg;rw[if_neg (by omega),if_neg (by omega)]
 ·rw[aDk h];simp only[fK];unfold Ed.sg;rw[if_neg (by omega),if_pos (by omega)]
def aP6 (f:E):Option Bool:=
 match f with
 | .lit n=>some (decide (0≤n))
 |_=>none
def nT:gW:=fun X args=>
 match args with
 |[.agg [.int .i64 a,.int .u64 b],.agg [.int .i64 c,.int .u64 d]]=>match wide? X a b,wide? X c d with
  |some e,some f=>if qP X e && qP X f then match aP6 f with
    |some true=>(Res.test X (.cmp .lt f e)).bind fun u=>if u then .ok (.int .i64 (.lit 1)) else .ok (.int .i64 (.app 60 (.cons (.op .sub e f) .nil)))
    |some false=>(Res.test X (.cmp .lt e f)).bind fun t=>if t then .ok (.int .i64 (.lit (-1))) else .ok (.int .i64 (.app 60 (.cons (.op .sub e f) .nil)))
    |none=>(Res.test X (.cmp .lt e f)).bind fun t=>if t then .ok (.int .i64 (.lit (-1))) else (Res.test X (.cmp .lt f e)).bind fun u=>if u then .ok (.int .i64 (.lit 1)) else .ok (.int .i64 (.lit 0))
   else .fail 200
  |_,_ => .fail 202
 |_ => .fail 201
theorem aI9 {X:Ctx} {ρ:Nat→Int} (hX:X.Ok ρ) (hG:X.G=G):eA Try.prog X ρ GB 22 nT:=by
 obtain⟨XG,XI,XV,XF⟩:=X
 simp only at hG
 subst hG
 intro args s h α w vals hv hw
 unfold nT at h
 split at h
 ·split at h
  ·rename_i a b c d _ _ e f he hf
   split at h
   ·rename_i hg
    simp only[Bool.and_eq_true]at hg
    obtain⟨e1,e2⟩:=wide?_den hX rfl he
    obtain⟨f1,f2⟩:=wide?_den hX rfl hf
    have be:=gP hX hg.1
    have bf:=gP hX hg.2
    have k:=aCO (hi (e.den G ρ)) (lo (e.den G ρ)) (hi (f.den G ρ)) (lo (f.den G ρ)) (aKv _ be) (by have:=mH (e.den G ρ);unfold dZ at this;omega) (aKv _ bf) (by have:=mH (f.den G ρ);unfold dZ at this;omega) w hw
    have ks:dX [hi (e.den G ρ),lo (e.den G ρ),hi (f.den G ρ),lo (f.den G ρ)]=fK [e.den G ρ-f.den G ρ]:=aOF _ _
    split at h
    ·obtain⟨u,hu,h⟩:=Res.bind_ok h
     have hu:=Res.test_ok hX hu
     cases u with
     |true=>
      simp only[if_true]at h
      have hgt:f.den G ρ<e.den G ρ:=of_decide_eq_true hu
      rw[aDk hgt,←e1,←e2,←f1,←f2]at k
      cases h
      exact bD hv rfl rfl k
     |false=>
      simp only[Bool.false_eq_true,if_false]at h
      rw[ks,←e1,←e2,←f1,←f2]at k
      cases h
      exact bD hv rfl rfl k
    ·obtain⟨t,ht,h⟩:=Res.bind_ok h
     have ht:=Res.test_ok hX ht
     cases t with
     |true=>
      simp only[if_true]at h
      have hlt:e.den G ρ<f.den G ρ:=of_decide_eq_true ht
      rw[aEy hlt,←e1,←e2,←f1,←f2]at k
      cases h
      exact bD hv rfl rfl k
     |false=>
      simp only[Bool.false_eq_true,if_false]at h
      rw[ks,←e1,←e2,←f1,←f2]at k
      cases h
      exact bD hv rfl rfl k
    ·skip
     obtain⟨t,ht,h⟩:=Res.bind_ok h
     have ht:=Res.test_ok hX ht
     cases t with
     |true=>
      simp only[if_true]at h
      have hlt:e.den G ρ<f.den G ρ:=of_decide_eq_true ht
      rw[aEy hlt,←e1,←e2,←f1,←f2]at k
      cases h
      exact bD hv rfl rfl k
     |false=>
      simp only[Bool.false_eq_true,if_false]at h
      have hge:¬e.den G ρ<f.den G ρ:=of_decide_eq_false ht
      obtain⟨u,hu,h⟩:=Res.bind_ok h
      have hu:=Res.test_ok hX hu
      cases u with
      |true=>
       simp only[if_true]at h
       have hgt:f.den G ρ<e.den G ρ:=of_decide_eq_true hu
       rw[aDk hgt,←e1,←e2,←f1,←f2]at k
       cases h
       exact bD hv rfl rfl k
      |false=>
       simp only[Bool.false_eq_true,if_false]at h
       have hle:¬f.den G ρ<e.den G ρ:=of_decide_eq_false hu
       have heq:e.den G ρ=f.den G ρ:=by omega
       have hz:=aJ3 (e.den G ρ)
       have hz':dX [hi (e.den G ρ),lo (e.den G ρ),hi (f.den G ρ),lo (f.den G ρ)]=0:=by rw[←heq];exact hz
       rw[hz',←e1,←e2,←f1,←f2]at k
       cases h
       exact bD hv rfl rfl k
   ·cases h
  ·cases h
 ·cases h
def aAh:aX:=fD 22 nT aJ2
theorem nK {X:Ctx} {ρ:Nat→Int} (hX:X.Ok ρ) (hG:X.G=G):gF Try.prog X ρ GB aAh:=cQ (aI9 hX hG) (aBV hX hG)
end Go.Proofs.Ytoiecphddchknaa
