/- What is proved: the run of a function over its ways,and what is known on each. No condition. -/
import Derived.Test.YtoiecphddchknaaQg6
import Derived.Test.YtoiecphddchknaaQg3
import Derived.Test.YtoiecphddchknaaProg
import Derived.Test.YtoiecphddchknaaQNn
set_option linter.unusedSimpArgs false
set_option linter.unusedVariables false
set_option maxRecDepth 100000
namespace Go.Proofs.Ytoiecphddchknaa
open Go Go.RowKit Sx Wi
def uI (P:Program) (fs:List B):Res SV:=bY G GI [((-9223372036854775808),9223372036854775807)] fs (fun X=>mW P X GB aO2 2000 38 [(.int .i64 (.var 0))])
def aBT:List B:=[]
def aHg:B:=(.cmp .lt (.var 0) (.lit 0))
def aNq:List B:=aK aHg++aBT
def aCi:List B:=aK (B.neg aHg)++aBT
def aGX:B:=(.cmp .lt (.lit 0) (.var 0))
def aNR:List B:=aK aGX++aCi
def aOg:List B:=aK (B.neg aGX)++aCi
theorem aOS:uI Try.prog aBT = .need (.cmp .lt (.var 0) (.lit 0)):=by kernel_rfl
theorem aOl:uI Try.prog aNq = .ok (.int .i64 (.lit (-1))):=by kernel_rfl
theorem aPz:uI Try.prog aCi = .need (.cmp .lt (.lit 0) (.var 0)):=by kernel_rfl
theorem aPM:uI Try.prog aNR = .ok (.int .i64 (.lit 1)):=by kernel_rfl
theorem aOa:uI Try.prog aOg = .ok (.int .i64 (.lit 0)):=by kernel_rfl
end Go.Proofs.Ytoiecphddchknaa
set_option maxRecDepth 100000
namespace Go.Proofs.Ytoiecphddchknaa
open Go Go.RowKit Sx Wi
def gJ (P:Program) (fs:List B):Res SV:=bY G GI [((-9223372036854775808),9223372036854775807),(0,18446744073709551615),((-9223372036854775808),9223372036854775807),(0,18446744073709551615)] fs (fun X=>mW P X GB aO2 2000 22 [(.agg [(.int .i64 (.var 0)),(.int .u64 (.var 1))]),(.agg [(.int .i64 (.var 2)),(.int .u64 (.var 3))])])
def aBJ:List B:=[]
def aGt:B:=(.cmp .lt (.var 0) (.var 2))
def aBX:List B:=aK aGt++aBJ
def aHs:B:=(.cmp .lt (.var 1) (.var 3))
def aOP:List B:=aK aHs++aBX
def aBF:List B:=aK (B.neg aHs)++aBX
def aHr:B:=(.cmp .lt (.var 3) (.var 1))
def aOB:List B:=aK aHr++aBF
def aPk:List B:=aK (B.neg aHr)++aBF
def aBH:List B:=aK (B.neg aGt)++aBJ
def aG8:B:=(.cmp .lt (.var 2) (.var 0))
def aCn:List B:=aK aG8++aBH
def aHh:B:=(.cmp .lt (.var 1) (.var 3))
def aPU:List B:=aK aHh++aCn
def aBy:List B:=aK (B.neg aHh)++aCn
def aGK:B:=(.cmp .lt (.var 3) (.var 1))
def aLx:List B:=aK aGK++aBy
def aJQ:List B:=aK (B.neg aGK)++aBy
def xV:List B:=aK (B.neg aG8)++aBH
def aDQ:B:=(.cmp .lt (.var 1) (.var 3))
def aKj:List B:=aK aDQ++xV
def yU:List B:=aK (B.neg aDQ)++xV
def aDA:B:=(.cmp .lt (.var 3) (.var 1))
def aMH:List B:=aK aDA++yU
def aM6:List B:=aK (B.neg aDA)++yU
theorem aOO:gJ Try.prog aBJ = .need (.cmp .lt (.var 0) (.var 2)):=by kernel_rfl
theorem aOE:gJ Try.prog aBX = .need (.cmp .lt (.var 1) (.var 3)):=by kernel_rfl
theorem aOs:gJ Try.prog aOP = .ok (.int .i64 (.lit (-1))):=by kernel_rfl
theorem aOy:gJ Try.prog aBF = .need (.cmp .lt (.var 3) (.var 1)):=by kernel_rfl
theorem aNL:gJ Try.prog aOB = .ok (.int .i64 (.lit (-1))):=by kernel_rfl
theorem aN0:gJ Try.prog aPk = .ok (.int .i64 (.lit (-1))):=by kernel_rfl
theorem aOT:gJ Try.prog aBH = .need (.cmp .lt (.var 2) (.var 0)):=by kernel_rfl
theorem aNC:gJ Try.prog aCn = .need (.cmp .lt (.var 1) (.var 3)):=by kernel_rfl
theorem aPg:gJ Try.prog aPU = .ok (.int .i64 (.lit 1)):=by kernel_rfl
theorem aN8:gJ Try.prog aBy = .need (.cmp .lt (.var 3) (.var 1)):=by kernel_rfl
theorem aMt:gJ Try.prog aLx = .ok (.int .i64 (.lit 1)):=by kernel_rfl
theorem aKv:gJ Try.prog aJQ = .ok (.int .i64 (.lit 1)):=by kernel_rfl
theorem aM4:gJ Try.prog xV = .need (.cmp .lt (.var 1) (.var 3)):=by kernel_rfl
theorem aKC:gJ Try.prog aKj = .ok (.int .i64 (.lit (-1))):=by kernel_rfl
theorem aJ9:gJ Try.prog yU = .need (.cmp .lt (.var 3) (.var 1)):=by kernel_rfl
theorem aMl:gJ Try.prog aMH = .ok (.int .i64 (.lit 1)):=by kernel_rfl
theorem aKH:gJ Try.prog aM6 = .ok (.int .i64 (.lit 0)):=by kernel_rfl
end Go.Proofs.Ytoiecphddchknaa
namespace Go.Proofs.Ytoiecphddchknaa
open Go Go.RowKit Sx Wi
set_option maxRecDepth 100000 in
theorem aNk (x0:Int) (b0:(-9223372036854775808)≤x0∧x0≤9223372036854775807) (w:World) (hw:WOk GB w):eB Try.prog 38∧Calls Try.prog 38 #[.int .i64 x0] w (fun e w'=>e = .returned (.int .i64 (fM [x0]))∧Below w.heap.size w w'):=by
 refine iR (eZ (ρ:=dP [x0]) (run:=fun fs=>uI Try.prog fs) (fun _=>rfl) fits (cF ⟨b0,trivial⟩) gM (fun X hX hG=>aBz hX hG) rfl rfl eA ?_ w hw)
 refine bD aOS (fun h0=>?_) (fun h0=>?_)
 ·skip
  refine aG aOl ?_
  refine⟨rfl,?_⟩;simp only[nn]at *;simp only[fM];unfold Ed.sg;split<;>(try split)<;>first|rfl|(exfalso;omega)
 refine bD aPz (fun h1=>?_) (fun h1=>?_)
 ·skip
  refine aG aPM ?_
  refine⟨rfl,?_⟩;simp only[nn]at *;simp only[fM];unfold Ed.sg;split<;>(try split)<;>first|rfl|(exfalso;omega)
 refine aG aOa ?_
 refine⟨rfl,?_⟩;simp only[nn]at *;simp only[fM];unfold Ed.sg;split<;>(try split)<;>first|rfl|(exfalso;omega)
def rA:iI:=fun X args=>
 match args with
 |[.int .i64 a0]=>if a0.fits X .i64 then .ok (.int .i64 (.app 60 (.cons a0 .nil))) else .fail 200
 |_ => .fail 201
theorem aPq {X:Ctx} {ρ:Nat→Int} (hX:X.Ok ρ) (hG:X.G=G):dT Try.prog X ρ GB 38 rA:=by
 obtain⟨XG,XI,XV,XF⟩:=X
 simp only at hG
 subst hG
 intro args s h α w vals hv hw
 unfold rA at h
 split at h
 ·split at h
  ·rename_i hg
   try simp only[Bool.and_eq_true]at hg
   have g0:=hg
   cases h
   exact bB hv rfl rfl (aNk _ (E.fits_in hX g0) w hw)
  ·cases h
 ·cases h
set_option maxRecDepth 100000 in
theorem aDj (x0 x1 x2 x3:Int) (b0:(-9223372036854775808)≤x0∧x0≤9223372036854775807) (b1:0≤x1∧x1≤18446744073709551615) (b2:(-9223372036854775808)≤x2∧x2≤9223372036854775807) (b3:0≤x3∧x3≤18446744073709551615) (w:World) (hw:WOk GB w):eB Try.prog 22∧Calls Try.prog 22 #[(.agg #[.int .i64 x0,.int .u64 x1]),(.agg #[.int .i64 x2,.int .u64 x3])] w (fun e w'=>e = .returned (.int .i64 (dY [x0,x1,x2,x3]))∧Below w.heap.size w w'):=by
 refine iR (eZ (ρ:=dP [x0,x1,x2,x3]) (run:=fun fs=>gJ Try.prog fs) (fun _=>rfl) fits (cF ⟨b0,b1,b2,b3,trivial⟩) gM (fun X hX hG=>aBz hX hG) rfl rfl eA ?_ w hw)
 refine bD aOO (fun h0=>?_) (fun h0=>?_)
 ·skip
  refine bD aOE (fun h1=>?_) (fun h1=>?_)
  ·skip
   refine aG aOs ?_
   refine⟨rfl,?_⟩;simp only[nn]at *;simp only[dY];(repeat' split)<;>first|rfl|(exfalso;omega)
  refine bD aOy (fun h2=>?_) (fun h2=>?_)
  ·skip
   refine aG aNL ?_
   refine⟨rfl,?_⟩;simp only[nn]at *;simp only[dY];(repeat' split)<;>first|rfl|(exfalso;omega)
  refine aG aN0 ?_
  refine⟨rfl,?_⟩;simp only[nn]at *;simp only[dY];(repeat' split)<;>first|rfl|(exfalso;omega)
 refine bD aOT (fun h1=>?_) (fun h1=>?_)
 ·skip
  refine bD aNC (fun h2=>?_) (fun h2=>?_)
  ·skip
   refine aG aPg ?_
   refine⟨rfl,?_⟩;simp only[nn]at *;simp only[dY];(repeat' split)<;>first|rfl|(exfalso;omega)
  refine bD aN8 (fun h3=>?_) (fun h3=>?_)
  ·skip
   refine aG aMt ?_
   refine⟨rfl,?_⟩;simp only[nn]at *;simp only[dY];(repeat' split)<;>first|rfl|(exfalso;omega)
  refine aG aKv ?_
  refine⟨rfl,?_⟩;simp only[nn]at *;simp only[dY];(repeat' split)<;>first|rfl|(exfalso;omega)
 refine bD aM4 (fun h2=>?_) (fun h2=>?_)
 ·skip
  refine aG aKC ?_
  refine⟨rfl,?_⟩;simp only[nn]at *;simp only[dY];(repeat' split)<;>first|rfl|(exfalso;omega)
 refine bD aJ9 (fun h3=>?_) (fun h3=>?_)
 ·skip
  refine aG aMl ?_
  refine⟨rfl,?_⟩;simp only[nn]at *;simp only[dY];(repeat' split)<;>first|rfl|(exfalso;omega)
 refine aG aKH ?_
 refine⟨rfl,?_⟩;simp only[nn]at *;simp only[dY];(repeat' split)<;>first|rfl|(exfalso;omega)
def qX:iI:=fun X args=>
 match args with
 |[(.agg [.int .i64 a0,.int .u64 a1]),(.agg [.int .i64 a2,.int .u64 a3])]=>if a0.fits X .i64 && a1.fits X .u64 && a2.fits X .i64 && a3.fits X .u64 then .ok (.int .i64 (.app 67 (.cons a0 (.cons a1 (.cons a2 (.cons a3 .nil)))))) else .fail 200
 |_ => .fail 201
theorem aNM {X:Ctx} {ρ:Nat→Int} (hX:X.Ok ρ) (hG:X.G=G):dT Try.prog X ρ GB 22 qX:=by
 obtain⟨XG,XI,XV,XF⟩:=X
 simp only at hG
 subst hG
 intro args s h α w vals hv hw
 unfold qX at h
 split at h
 ·split at h
  ·rename_i hg
   try simp only[Bool.and_eq_true]at hg
   obtain⟨⟨⟨g0,g1⟩,g2⟩,g3⟩:=hg
   cases h
   exact bB hv rfl rfl (aDj _ _ _ _ (E.fits_in hX g0) (E.fits_in hX g1) (E.fits_in hX g2) (E.fits_in hX g3) w hw)
  ·cases h
 ·cases h
def aGW:aX:=eI 38 rA aO2
theorem aFp {X:Ctx} {ρ:Nat→Int} (hX:X.Ok ρ) (hG:X.G=G):gL Try.prog X ρ GB aGW:=bX (aPq hX hG) (aBz hX hG)
def aBx:aX:=eI 22 qX aGW
theorem xA {X:Ctx} {ρ:Nat→Int} (hX:X.Ok ρ) (hG:X.G=G):gL Try.prog X ρ GB aBx:=bX (aNM hX hG) (aFp hX hG)
end Go.Proofs.Ytoiecphddchknaa
set_option maxRecDepth 100000
namespace Go.Proofs.Ytoiecphddchknaa
open Go Go.RowKit Sx Wi
def aCN (P:Program) (fs:List B):Res SV:=bY G GI [((-671088640),671088640),((-671088640),671088640),((-1342177280),1342177280),((-1342177280),1342177280),((-671088640),671088640),((-671088640),671088640)] fs (fun X=>mW P X GB aBx 2000 41 [(.agg [(.int .i64 (.var 0)),(.int .i64 (.var 1)),(.int .i64 (.var 2)),(.int .i64 (.var 3))]),(.agg [(.int .i64 (.var 4)),(.int .i64 (.var 5))])])
def aLv:List B:=[]
def aP1:B:=(.cmp .ne (.app 60 (.cons (.op .sub (.op .mul (.var 2) (.op .sub (.var 5) (.var 1))) (.op .mul (.var 3) (.op .sub (.var 4) (.var 0)))) .nil)) (.lit 0))
def aR6:List B:=aK aP1++aLv
def aLA:List B:=aK (B.neg aP1)++aLv
def aQl:B:=(.cmp .ne (.op .sub (.lit 0) (.app 60 (.cons (.var 3) .nil))) (.lit 0))
def aRY:List B:=aK aQl++aLA
def aL2:List B:=aK (B.neg aQl)++aLA
def aQi:B:=(.cmp .ne (.app 60 (.cons (.var 2) .nil)) (.lit 0))
def aSJ:List B:=aK aQi++aL2
def aSh:List B:=aK (B.neg aQi)++aL2
theorem aSL:aCN Try.prog aLv = .need (.cmp .ne (.app 60 (.cons (.op .sub (.op .mul (.var 2) (.op .sub (.var 5) (.var 1))) (.op .mul (.var 3) (.op .sub (.var 4) (.var 0)))) .nil)) (.lit 0)):=by kernel_rfl
theorem aRZ:aCN Try.prog aR6 = .ok (.int .i64 (.app 60 (.cons (.op .sub (.op .mul (.var 2) (.op .sub (.var 5) (.var 1))) (.op .mul (.var 3) (.op .sub (.var 4) (.var 0)))) .nil))):=by kernel_rfl
theorem aSE:aCN Try.prog aLA = .need (.cmp .ne (.op .sub (.lit 0) (.app 60 (.cons (.var 3) .nil))) (.lit 0)):=by kernel_rfl
theorem aSm:aCN Try.prog aRY = .ok (.int .i64 (.op .sub (.lit 0) (.app 60 (.cons (.var 3) .nil)))):=by kernel_rfl
theorem aR0:aCN Try.prog aL2 = .need (.cmp .ne (.app 60 (.cons (.var 2) .nil)) (.lit 0)):=by kernel_rfl
theorem aRW:aCN Try.prog aSJ = .ok (.int .i64 (.app 60 (.cons (.var 2) .nil))):=by kernel_rfl
theorem aSc:aCN Try.prog aSh = .ok (.int .i64 (.lit 0)):=by kernel_rfl
end Go.Proofs.Ytoiecphddchknaa
namespace Go.Proofs.Ytoiecphddchknaa
open Go Go.RowKit Sx Wi
set_option maxRecDepth 100000 in
theorem aRP (x0 x1 x2 x3 x4 x5:Int) (b0:(-671088640)≤x0∧x0≤671088640) (b1:(-671088640)≤x1∧x1≤671088640) (b2:(-1342177280)≤x2∧x2≤1342177280) (b3:(-1342177280)≤x3∧x3≤1342177280) (b4:(-671088640)≤x4∧x4≤671088640) (b5:(-671088640)≤x5∧x5≤671088640) (w:World) (hw:WOk GB w):eB Try.prog 41∧Calls Try.prog 41 #[(.agg #[.int .i64 x0,.int .i64 x1,.int .i64 x2,.int .i64 x3]),(.agg #[.int .i64 x4,.int .i64 x5])] w (fun e w'=>e = .returned (.int .i64 (iS [x0,x1,x2,x3,x4,x5]))∧Below w.heap.size w w'):=by
 refine iR (eZ (ρ:=dP [x0,x1,x2,x3,x4,x5]) (run:=fun fs=>aCN Try.prog fs) (fun _=>rfl) fits (cF ⟨b0,b1,b2,b3,b4,b5,trivial⟩) gM (fun X hX hG=>xA hX hG) rfl rfl eA ?_ w hw)
 refine bD aSL (fun h0=>?_) (fun h0=>?_)
 ·skip
  refine aG aRZ ?_
  refine⟨rfl,?_⟩;simp only[nn]at *;(try simp only[G,fM,iS,gR,dB,dY]at *);unfold sd Ed.or3;simp_all
 refine bD aSE (fun h1=>?_) (fun h1=>?_)
 ·skip
  refine aG aSm ?_
  refine⟨rfl,?_⟩;simp only[nn]at *;(try simp only[G,fM,iS,gR,dB,dY]at *);unfold sd Ed.or3;simp_all
 refine bD aR0 (fun h2=>?_) (fun h2=>?_)
 ·skip
  refine aG aRW ?_
  refine⟨rfl,?_⟩;simp only[nn]at *;(try simp only[G,fM,iS,gR,dB,dY]at *);unfold sd Ed.or3;simp_all
 refine aG aSc ?_
 refine⟨rfl,?_⟩;simp only[nn]at *;(try simp only[G,fM,iS,gR,dB,dY]at *);unfold sd Ed.or3;simp_all
def zS:iI:=fun X args=>
 match args with
 |[(.agg [.int .i64 a0,.int .i64 a1,.int .i64 a2,.int .i64 a3]),(.agg [.int .i64 a4,.int .i64 a5])]=>if a0.lies X (-671088640) 671088640 && a1.lies X (-671088640) 671088640 && a2.lies X (-1342177280) 1342177280 && a3.lies X (-1342177280) 1342177280 && a4.lies X (-671088640) 671088640 && a5.lies X (-671088640) 671088640 then .ok (.int .i64 (.app 62 (.cons a0 (.cons a1 (.cons a2 (.cons a3 (.cons a4 (.cons a5 .nil)))))))) else .fail 200
 |_ => .fail 201
theorem aSj {X:Ctx} {ρ:Nat→Int} (hX:X.Ok ρ) (hG:X.G=G):dT Try.prog X ρ GB 41 zS:=by
 obtain⟨XG,XI,XV,XF⟩:=X
 simp only at hG
 subst hG
 intro args s h α w vals hv hw
 unfold zS at h
 split at h
 ·split at h
  ·rename_i hg
   try simp only[Bool.and_eq_true]at hg
   obtain⟨⟨⟨⟨⟨g0,g1⟩,g2⟩,g3⟩,g4⟩,g5⟩:=hg
   cases h
   exact bB hv rfl rfl (aRP _ _ _ _ _ _ (E.lies_in hX g0) (E.lies_in hX g1) (E.lies_in hX g2) (E.lies_in hX g3) (E.lies_in hX g4) (E.lies_in hX g5) w hw)
  ·cases h
 ·cases h
def aG6:aX:=eI 41 zS aBx
theorem xR {X:Ctx} {ρ:Nat→Int} (hX:X.Ok ρ) (hG:X.G=G):gL Try.prog X ρ GB aG6:=bX (aSj hX hG) (xA hX hG)
end Go.Proofs.Ytoiecphddchknaa
set_option maxRecDepth 100000
namespace Go.Proofs.Ytoiecphddchknaa
open Go Go.RowKit Sx Wi
def cK (P:Program) (fs:List B):Res SV:=bY G GI [((-9223372036854775808),9223372036854775807),((-9223372036854775808),9223372036854775807),((-9223372036854775808),9223372036854775807),((-9223372036854775808),9223372036854775807),((-9223372036854775808),9223372036854775807),((-9223372036854775808),9223372036854775807),((-9223372036854775808),9223372036854775807),((-9223372036854775808),9223372036854775807)] fs (fun X=>mW P X GB aG6 2000 13 [(.agg [(.int .i64 (.var 0)),(.int .i64 (.var 1)),(.int .i64 (.var 2)),(.int .i64 (.var 3)),(.int .i64 (.var 4)),(.int .i64 (.var 5))]),(.agg [(.int .i64 (.var 6)),(.int .i64 (.var 7))])])
def zR:List B:=[]
def aDs:B:=(.cmp .lt (.lit 671088640) (.op .max (.var 0) (.var 1)))
def aKU:List B:=aK aDs++zR
def zE:List B:=aK (B.neg aDs)++zR
def aDJ:B:=(.cmp .lt (.op .min (.var 0) (.var 1)) (.lit (-671088640)))
def aKk:List B:=aK aDJ++zE
def zB:List B:=aK (B.neg aDJ)++zE
def aCO:B:=(.cmp .lt (.lit 671088640) (.op .max (.var 2) (.var 3)))
def aKx:List B:=aK aCO++zB
def yB:List B:=aK (B.neg aCO)++zB
def aC3:B:=(.cmp .lt (.op .min (.var 2) (.var 3)) (.lit (-671088640)))
def aMK:List B:=aK aC3++yB
def xD:List B:=aK (B.neg aC3)++yB
def aCD:B:=(.cmp .lt (.lit 671088640) (.op .max (.var 4) (.var 5)))
def aLS:List B:=aK aCD++xD
def vA:List B:=aK (B.neg aCD)++xD
def aBu:B:=(.cmp .lt (.op .min (.var 4) (.var 5)) (.lit (-671088640)))
def aIi:List B:=aK aBu++vA
def tI:List B:=aK (B.neg aBu)++vA
def aBp:B:=(.cmp .eq (.app 60 (.cons (.op .sub (.op .mul (.op .sub (.var 2) (.var 0)) (.op .sub (.var 5) (.var 1))) (.op .mul (.op .sub (.var 3) (.var 1)) (.op .sub (.var 4) (.var 0)))) .nil)) (.lit 0))
def aHG:List B:=aK aBp++tI
def tQ:List B:=aK (B.neg aBp)++tI
def aBa:B:=(.cmp .lt (.lit 671088640) (.op .max (.var 6) (.var 7)))
def aI9:List B:=aK aBa++tQ
def uH:List B:=aK (B.neg aBa)++tQ
def aAK:B:=(.cmp .lt (.op .min (.var 6) (.var 7)) (.lit (-671088640)))
def aIg:List B:=aK aAK++uH
def tY:List B:=aK (B.neg aAK)++uH
def aAG:B:=(.cmp .ne (.app 62 (.cons (.var 2) (.cons (.var 3) (.cons (.op .sub (.var 4) (.var 2)) (.cons (.op .sub (.var 5) (.var 3)) (.cons (.var 6) (.cons (.var 7) .nil))))))) (.app 60 (.cons (.op .sub (.op .mul (.op .sub (.var 2) (.var 0)) (.op .sub (.var 5) (.var 1))) (.op .mul (.op .sub (.var 3) (.var 1)) (.op .sub (.var 4) (.var 0)))) .nil)))
def aJx:List B:=aK aAG++tY
def vK:List B:=aK (B.neg aAG)++tY
def aBr:B:=(.cmp .ne (.app 62 (.cons (.var 4) (.cons (.var 5) (.cons (.op .sub (.var 0) (.var 4)) (.cons (.op .sub (.var 1) (.var 5)) (.cons (.var 6) (.cons (.var 7) .nil))))))) (.app 60 (.cons (.op .sub (.op .mul (.op .sub (.var 2) (.var 0)) (.op .sub (.var 5) (.var 1))) (.op .mul (.op .sub (.var 3) (.var 1)) (.op .sub (.var 4) (.var 0)))) .nil)))
def aIQ:List B:=aK aBr++vK
def tM:List B:=aK (B.neg aBr)++vK
def aA9:B:=(.cmp .ne (.app 62 (.cons (.var 0) (.cons (.var 1) (.cons (.op .sub (.var 2) (.var 0)) (.cons (.op .sub (.var 3) (.var 1)) (.cons (.var 6) (.cons (.var 7) .nil))))))) (.app 60 (.cons (.op .sub (.op .mul (.op .sub (.var 2) (.var 0)) (.op .sub (.var 5) (.var 1))) (.op .mul (.op .sub (.var 3) (.var 1)) (.op .sub (.var 4) (.var 0)))) .nil)))
def aJv:List B:=aK aA9++tM
def aIv:List B:=aK (B.neg aA9)++tM
theorem aMZ:cK Try.prog zR = .need (.cmp .lt (.lit 671088640) (.op .max (.var 0) (.var 1))):=by kernel_rfl
theorem aJ3:cK Try.prog aKU = .ok (.int .i64 (.lit 0)):=by kernel_rfl
theorem aKo:cK Try.prog zE = .need (.cmp .lt (.op .min (.var 0) (.var 1)) (.lit (-671088640))):=by kernel_rfl
theorem aNa:cK Try.prog aKk = .ok (.int .i64 (.lit 0)):=by kernel_rfl
theorem aL9:cK Try.prog zB = .need (.cmp .lt (.lit 671088640) (.op .max (.var 2) (.var 3))):=by kernel_rfl
theorem aMA:cK Try.prog aKx = .ok (.int .i64 (.lit 0)):=by kernel_rfl
theorem aLq:cK Try.prog yB = .need (.cmp .lt (.op .min (.var 2) (.var 3)) (.lit (-671088640))):=by kernel_rfl
theorem aKn:cK Try.prog aMK = .ok (.int .i64 (.lit 0)):=by kernel_rfl
theorem aM8:cK Try.prog xD = .need (.cmp .lt (.lit 671088640) (.op .max (.var 4) (.var 5))):=by kernel_rfl
theorem aKs:cK Try.prog aLS = .ok (.int .i64 (.lit 0)):=by kernel_rfl
theorem aJn:cK Try.prog vA = .need (.cmp .lt (.op .min (.var 4) (.var 5)) (.lit (-671088640))):=by kernel_rfl
theorem aJp:cK Try.prog aIi = .ok (.int .i64 (.lit 0)):=by kernel_rfl
theorem aJe:cK Try.prog tI = .need (.cmp .eq (.app 60 (.cons (.op .sub (.op .mul (.op .sub (.var 2) (.var 0)) (.op .sub (.var 5) (.var 1))) (.op .mul (.op .sub (.var 3) (.var 1)) (.op .sub (.var 4) (.var 0)))) .nil)) (.lit 0)):=by kernel_rfl
theorem aIe:cK Try.prog aHG = .ok (.int .i64 (.lit 0)):=by kernel_rfl
theorem aIs:cK Try.prog tQ = .need (.cmp .lt (.lit 671088640) (.op .max (.var 6) (.var 7))):=by kernel_rfl
theorem aJj:cK Try.prog aI9 = .ok (.int .i64 (.lit 0)):=by kernel_rfl
theorem aH5:cK Try.prog uH = .need (.cmp .lt (.op .min (.var 6) (.var 7)) (.lit (-671088640))):=by kernel_rfl
theorem aJk:cK Try.prog aIg = .ok (.int .i64 (.lit 0)):=by kernel_rfl
theorem aIq:cK Try.prog tY = .need (.cmp .ne (.app 62 (.cons (.var 2) (.cons (.var 3) (.cons (.op .sub (.var 4) (.var 2)) (.cons (.op .sub (.var 5) (.var 3)) (.cons (.var 6) (.cons (.var 7) .nil))))))) (.app 60 (.cons (.op .sub (.op .mul (.op .sub (.var 2) (.var 0)) (.op .sub (.var 5) (.var 1))) (.op .mul (.op .sub (.var 3) (.var 1)) (.op .sub (.var 4) (.var 0)))) .nil))):=by kernel_rfl
theorem aJJ:cK Try.prog aJx = .ok (.int .i64 (.lit 0)):=by kernel_rfl
theorem aJL:cK Try.prog vK = .need (.cmp .ne (.app 62 (.cons (.var 4) (.cons (.var 5) (.cons (.op .sub (.var 0) (.var 4)) (.cons (.op .sub (.var 1) (.var 5)) (.cons (.var 6) (.cons (.var 7) .nil))))))) (.app 60 (.cons (.op .sub (.op .mul (.op .sub (.var 2) (.var 0)) (.op .sub (.var 5) (.var 1))) (.op .mul (.op .sub (.var 3) (.var 1)) (.op .sub (.var 4) (.var 0)))) .nil))):=by kernel_rfl
theorem aIj:cK Try.prog aIQ = .ok (.int .i64 (.lit 0)):=by kernel_rfl
theorem aIS:cK Try.prog tM = .need (.cmp .ne (.app 62 (.cons (.var 0) (.cons (.var 1) (.cons (.op .sub (.var 2) (.var 0)) (.cons (.op .sub (.var 3) (.var 1)) (.cons (.var 6) (.cons (.var 7) .nil))))))) (.app 60 (.cons (.op .sub (.op .mul (.op .sub (.var 2) (.var 0)) (.op .sub (.var 5) (.var 1))) (.op .mul (.op .sub (.var 3) (.var 1)) (.op .sub (.var 4) (.var 0)))) .nil))):=by kernel_rfl
theorem aHU:cK Try.prog aJv = .ok (.int .i64 (.lit 0)):=by kernel_rfl
theorem aJh:cK Try.prog aIv = .ok (.int .i64 (.app 60 (.cons (.op .sub (.op .mul (.op .sub (.var 2) (.var 0)) (.op .sub (.var 5) (.var 1))) (.op .mul (.op .sub (.var 3) (.var 1)) (.op .sub (.var 4) (.var 0)))) .nil))):=by kernel_rfl
end Go.Proofs.Ytoiecphddchknaa
set_option maxRecDepth 100000
namespace Go.Proofs.Ytoiecphddchknaa
open Go Go.RowKit Sx Wi
def oM (P:Program) (fs:List B):Res SV:=bY G GI [((-9223372036854775808),9223372036854775807),((-9223372036854775808),9223372036854775807),((-9223372036854775808),9223372036854775807),((-9223372036854775808),9223372036854775807),((-9223372036854775808),9223372036854775807),((-9223372036854775808),9223372036854775807),((-9223372036854775808),9223372036854775807),((-9223372036854775808),9223372036854775807)] fs (fun X=>mW P X GB aG6 2000 16 [(.agg [(.int .i64 (.var 0)),(.int .i64 (.var 1)),(.int .i64 (.var 2)),(.int .i64 (.var 3)),(.int .i64 (.var 4)),(.int .i64 (.var 5))]),(.agg [(.int .i64 (.var 6)),(.int .i64 (.var 7))])])
def aNd:List B:=[]
def aP7:B:=(.cmp .lt (.lit 671088640) (.op .max (.var 0) (.var 1)))
def aSH:List B:=aK aP7++aNd
def aJR:List B:=aK (B.neg aP7)++aNd
def aQp:B:=(.cmp .lt (.op .min (.var 0) (.var 1)) (.lit (-671088640)))
def aSb:List B:=aK aQp++aJR
def aMr:List B:=aK (B.neg aQp)++aJR
def aQg:B:=(.cmp .lt (.lit 671088640) (.op .max (.var 2) (.var 3)))
def aSM:List B:=aK aQg++aMr
def aMh:List B:=aK (B.neg aQg)++aMr
def aP0:B:=(.cmp .lt (.op .min (.var 2) (.var 3)) (.lit (-671088640)))
def aSl:List B:=aK aP0++aMh
def aKV:List B:=aK (B.neg aP0)++aMh
def aP3:B:=(.cmp .lt (.lit 671088640) (.op .max (.var 4) (.var 5)))
def aSC:List B:=aK aP3++aKV
def aFa:List B:=aK (B.neg aP3)++aKV
def aMa:B:=(.cmp .lt (.op .min (.var 4) (.var 5)) (.lit (-671088640)))
def aRA:List B:=aK aMa++aFa
def aEk:List B:=aK (B.neg aMa)++aFa
def aMz:B:=(.cmp .lt (.lit 671088640) (.op .max (.var 6) (.var 7)))
def aRF:List B:=aK aMz++aEk
def aEf:List B:=aK (B.neg aMz)++aEk
def aKq:B:=(.cmp .lt (.op .min (.var 6) (.var 7)) (.lit (-671088640)))
def aRu:List B:=aK aKq++aEf
def aRx:List B:=aK (B.neg aKq)++aEf
theorem aSq:oM Try.prog aNd = .need (.cmp .lt (.lit 671088640) (.op .max (.var 0) (.var 1))):=by kernel_rfl
theorem aSD:oM Try.prog aSH = .ok (.agg [(.int .i64 (.lit 0)),(.int .i64 (.lit 0)),(.int .i64 (.lit 0))]):=by kernel_rfl
theorem aSK:oM Try.prog aJR = .need (.cmp .lt (.op .min (.var 0) (.var 1)) (.lit (-671088640))):=by kernel_rfl
theorem aR4:oM Try.prog aSb = .ok (.agg [(.int .i64 (.lit 0)),(.int .i64 (.lit 0)),(.int .i64 (.lit 0))]):=by kernel_rfl
theorem aSf:oM Try.prog aMr = .need (.cmp .lt (.lit 671088640) (.op .max (.var 2) (.var 3))):=by kernel_rfl
theorem aSy:oM Try.prog aSM = .ok (.agg [(.int .i64 (.lit 0)),(.int .i64 (.lit 0)),(.int .i64 (.lit 0))]):=by kernel_rfl
theorem aSv:oM Try.prog aMh = .need (.cmp .lt (.op .min (.var 2) (.var 3)) (.lit (-671088640))):=by kernel_rfl
theorem aSB:oM Try.prog aSl = .ok (.agg [(.int .i64 (.lit 0)),(.int .i64 (.lit 0)),(.int .i64 (.lit 0))]):=by kernel_rfl
theorem aSG:oM Try.prog aKV = .need (.cmp .lt (.lit 671088640) (.op .max (.var 4) (.var 5))):=by kernel_rfl
theorem aSk:oM Try.prog aSC = .ok (.agg [(.int .i64 (.lit 0)),(.int .i64 (.lit 0)),(.int .i64 (.lit 0))]):=by kernel_rfl
theorem aRr:oM Try.prog aFa = .need (.cmp .lt (.op .min (.var 4) (.var 5)) (.lit (-671088640))):=by kernel_rfl
theorem aQG:oM Try.prog aRA = .ok (.agg [(.int .i64 (.lit 0)),(.int .i64 (.lit 0)),(.int .i64 (.lit 0))]):=by kernel_rfl
theorem aQF:oM Try.prog aEk = .need (.cmp .lt (.lit 671088640) (.op .max (.var 6) (.var 7))):=by kernel_rfl
theorem aQ9:oM Try.prog aRF = .ok (.agg [(.int .i64 (.lit 0)),(.int .i64 (.lit 0)),(.int .i64 (.lit 0))]):=by kernel_rfl
theorem aQP:oM Try.prog aEf = .need (.cmp .lt (.op .min (.var 6) (.var 7)) (.lit (-671088640))):=by kernel_rfl
theorem aRs:oM Try.prog aRu = .ok (.agg [(.int .i64 (.lit 0)),(.int .i64 (.lit 0)),(.int .i64 (.lit 0))]):=by kernel_rfl
theorem aQS:oM Try.prog aRx = .ok (.agg [(.int .i64 (.op .sub (.op .mul (.op .sub (.var 4) (.var 2)) (.op .sub (.var 7) (.var 3))) (.op .mul (.op .sub (.var 5) (.var 3)) (.op .sub (.var 6) (.var 2))))),(.int .i64 (.op .sub (.op .mul (.op .sub (.var 0) (.var 4)) (.op .sub (.var 7) (.var 5))) (.op .mul (.op .sub (.var 1) (.var 5)) (.op .sub (.var 6) (.var 4))))),(.int .i64 (.op .sub (.op .mul (.op .sub (.var 2) (.var 0)) (.op .sub (.var 7) (.var 1))) (.op .mul (.op .sub (.var 3) (.var 1)) (.op .sub (.var 6) (.var 0)))))]):=by kernel_rfl
end Go.Proofs.Ytoiecphddchknaa
namespace Go.Proofs.Ytoiecphddchknaa
open Go Go.RowKit Sx Wi
set_option maxHeartbeats 1000000 in
set_option maxRecDepth 100000 in
theorem aIt (x0 x1 x2 x3 x4 x5 x6 x7:Int) (b0:(-9223372036854775808)≤x0∧x0≤9223372036854775807) (b1:(-9223372036854775808)≤x1∧x1≤9223372036854775807) (b2:(-9223372036854775808)≤x2∧x2≤9223372036854775807) (b3:(-9223372036854775808)≤x3∧x3≤9223372036854775807) (b4:(-9223372036854775808)≤x4∧x4≤9223372036854775807) (b5:(-9223372036854775808)≤x5∧x5≤9223372036854775807) (b6:(-9223372036854775808)≤x6∧x6≤9223372036854775807) (b7:(-9223372036854775808)≤x7∧x7≤9223372036854775807) (w:World) (hw:WOk GB w):eB Try.prog 13∧Calls Try.prog 13 #[(.agg #[.int .i64 x0,.int .i64 x1,.int .i64 x2,.int .i64 x3,.int .i64 x4,.int .i64 x5]),(.agg #[.int .i64 x6,.int .i64 x7])] w (fun e w'=>e = .returned (.int .i64 (gR [x0,x1,x2,x3,x4,x5,x6,x7]))∧Below w.heap.size w w'):=by
 refine iR (eZ (ρ:=dP [x0,x1,x2,x3,x4,x5,x6,x7]) (run:=fun fs=>cK Try.prog fs) (fun _=>rfl) fits (cF ⟨b0,b1,b2,b3,b4,b5,b6,b7,trivial⟩) gM (fun X hX hG=>xR hX hG) rfl rfl eA ?_ w hw)
 refine bD aMZ (fun h0=>?_) (fun h0=>?_)
 ·skip
  refine aG aJ3 ?_
  refine⟨rfl,?_⟩;simp only[nn]at *;(try simp only[G,fM,iS,gR,dB,dY]at *);congr 1;rw[eD];unfold Ed.ok Ed.cross;dsimp only;(repeat' split)<;>first|rfl|(exfalso;omega)|contradiction|(simp_all;done)
 refine bD aKo (fun h1=>?_) (fun h1=>?_)
 ·skip
  refine aG aNa ?_
  refine⟨rfl,?_⟩;simp only[nn]at *;(try simp only[G,fM,iS,gR,dB,dY]at *);congr 1;rw[eD];unfold Ed.ok Ed.cross;dsimp only;(repeat' split)<;>first|rfl|(exfalso;omega)|contradiction|(simp_all;done)
 refine bD aL9 (fun h2=>?_) (fun h2=>?_)
 ·skip
  refine aG aMA ?_
  refine⟨rfl,?_⟩;simp only[nn]at *;(try simp only[G,fM,iS,gR,dB,dY]at *);congr 1;rw[eD];unfold Ed.ok Ed.cross;dsimp only;(repeat' split)<;>first|rfl|(exfalso;omega)|contradiction|(simp_all;done)
 refine bD aLq (fun h3=>?_) (fun h3=>?_)
 ·skip
  refine aG aKn ?_
  refine⟨rfl,?_⟩;simp only[nn]at *;(try simp only[G,fM,iS,gR,dB,dY]at *);congr 1;rw[eD];unfold Ed.ok Ed.cross;dsimp only;(repeat' split)<;>first|rfl|(exfalso;omega)|contradiction|(simp_all;done)
 refine bD aM8 (fun h4=>?_) (fun h4=>?_)
 ·skip
  refine aG aKs ?_
  refine⟨rfl,?_⟩;simp only[nn]at *;(try simp only[G,fM,iS,gR,dB,dY]at *);congr 1;rw[eD];unfold Ed.ok Ed.cross;dsimp only;(repeat' split)<;>first|rfl|(exfalso;omega)|contradiction|(simp_all;done)
 refine bD aJn (fun h5=>?_) (fun h5=>?_)
 ·skip
  refine aG aJp ?_
  refine⟨rfl,?_⟩;simp only[nn]at *;(try simp only[G,fM,iS,gR,dB,dY]at *);congr 1;rw[eD];unfold Ed.ok Ed.cross;dsimp only;(repeat' split)<;>first|rfl|(exfalso;omega)|contradiction|(simp_all;done)
 refine bD aJe (fun h6=>?_) (fun h6=>?_)
 ·skip
  refine aG aIe ?_
  refine⟨rfl,?_⟩;simp only[nn]at *;(try simp only[G,fM,iS,gR,dB,dY]at *);congr 1;rw[eD];unfold Ed.ok Ed.cross;dsimp only;(repeat' split)<;>first|rfl|(exfalso;omega)|contradiction|(simp_all;done)
 refine bD aIs (fun h7=>?_) (fun h7=>?_)
 ·skip
  refine aG aJj ?_
  refine⟨rfl,?_⟩;simp only[nn]at *;(try simp only[G,fM,iS,gR,dB,dY]at *);congr 1;rw[eD];unfold Ed.ok Ed.cross;dsimp only;(repeat' split)<;>first|rfl|(exfalso;omega)|contradiction|(simp_all;done)
 refine bD aH5 (fun h8=>?_) (fun h8=>?_)
 ·skip
  refine aG aJk ?_
  refine⟨rfl,?_⟩;simp only[nn]at *;(try simp only[G,fM,iS,gR,dB,dY]at *);congr 1;rw[eD];unfold Ed.ok Ed.cross;dsimp only;(repeat' split)<;>first|rfl|(exfalso;omega)|contradiction|(simp_all;done)
 refine bD aIq (fun h9=>?_) (fun h9=>?_)
 ·skip
  refine aG aJJ ?_
  refine⟨rfl,?_⟩;simp only[nn]at *;(try simp only[G,fM,iS,gR,dB,dY]at *);congr 1;rw[eD];unfold Ed.ok Ed.cross;dsimp only;(repeat' split)<;>first|rfl|(exfalso;omega)|contradiction|(simp_all;done)
 refine bD aJL (fun h10=>?_) (fun h10=>?_)
 ·skip
  refine aG aIj ?_
  refine⟨rfl,?_⟩;simp only[nn]at *;(try simp only[G,fM,iS,gR,dB,dY]at *);congr 1;rw[eD];unfold Ed.ok Ed.cross;dsimp only;(repeat' split)<;>first|rfl|(exfalso;omega)|contradiction|(simp_all;done)
 refine bD aIS (fun h11=>?_) (fun h11=>?_)
 ·skip
  refine aG aHU ?_
  refine⟨rfl,?_⟩;simp only[nn]at *;(try simp only[G,fM,iS,gR,dB,dY]at *);congr 1;rw[eD];unfold Ed.ok Ed.cross;dsimp only;(repeat' split)<;>first|rfl|(exfalso;omega)|contradiction|(simp_all;done)
 refine aG aJh ?_
 refine⟨rfl,?_⟩;simp only[nn]at *;(try simp only[G,fM,iS,gR,dB,dY]at *);congr 1;rw[eD];unfold Ed.ok Ed.cross;dsimp only;(repeat' split)<;>first|rfl|(exfalso;omega)|contradiction|(simp_all;done)
def pF:iI:=fun X args=>
 match args with
 |[(.agg [.int .i64 a0,.int .i64 a1,.int .i64 a2,.int .i64 a3,.int .i64 a4,.int .i64 a5]),(.agg [.int .i64 a6,.int .i64 a7])]=>if a0.fits X .i64 && a1.fits X .i64 && a2.fits X .i64 && a3.fits X .i64 && a4.fits X .i64 && a5.fits X .i64 && a6.fits X .i64 && a7.fits X .i64 then .ok (.int .i64 (.app 63 (.cons a0 (.cons a1 (.cons a2 (.cons a3 (.cons a4 (.cons a5 (.cons a6 (.cons a7 .nil)))))))))) else .fail 200
 |_ => .fail 201
theorem aKf {X:Ctx} {ρ:Nat→Int} (hX:X.Ok ρ) (hG:X.G=G):dT Try.prog X ρ GB 13 pF:=by
 obtain⟨XG,XI,XV,XF⟩:=X
 simp only at hG
 subst hG
 intro args s h α w vals hv hw
 unfold pF at h
 split at h
 ·split at h
  ·rename_i hg
   try simp only[Bool.and_eq_true]at hg
   obtain⟨⟨⟨⟨⟨⟨⟨g0,g1⟩,g2⟩,g3⟩,g4⟩,g5⟩,g6⟩,g7⟩:=hg
   cases h
   exact bB hv rfl rfl (aIt _ _ _ _ _ _ _ _ (E.fits_in hX g0) (E.fits_in hX g1) (E.fits_in hX g2) (E.fits_in hX g3) (E.fits_in hX g4) (E.fits_in hX g5) (E.fits_in hX g6) (E.fits_in hX g7) w hw)
  ·cases h
 ·cases h
set_option maxRecDepth 100000 in
theorem aRi (x0 x1 x2 x3 x4 x5 x6 x7:Int) (b0:(-9223372036854775808)≤x0∧x0≤9223372036854775807) (b1:(-9223372036854775808)≤x1∧x1≤9223372036854775807) (b2:(-9223372036854775808)≤x2∧x2≤9223372036854775807) (b3:(-9223372036854775808)≤x3∧x3≤9223372036854775807) (b4:(-9223372036854775808)≤x4∧x4≤9223372036854775807) (b5:(-9223372036854775808)≤x5∧x5≤9223372036854775807) (b6:(-9223372036854775808)≤x6∧x6≤9223372036854775807) (b7:(-9223372036854775808)≤x7∧x7≤9223372036854775807) (w:World) (hw:WOk GB w):eB Try.prog 16∧Calls Try.prog 16 #[(.agg #[.int .i64 x0,.int .i64 x1,.int .i64 x2,.int .i64 x3,.int .i64 x4,.int .i64 x5]),(.agg #[.int .i64 x6,.int .i64 x7])] w (fun e w'=>e = .returned (.agg #[.int .i64 (dB 0 [x0,x1,x2,x3,x4,x5,x6,x7]),.int .i64 (dB 1 [x0,x1,x2,x3,x4,x5,x6,x7]),.int .i64 (dB 2 [x0,x1,x2,x3,x4,x5,x6,x7])])∧Below w.heap.size w w'):=by
 refine iR (eZ (ρ:=dP [x0,x1,x2,x3,x4,x5,x6,x7]) (run:=fun fs=>oM Try.prog fs) (fun _=>rfl) fits (cF ⟨b0,b1,b2,b3,b4,b5,b6,b7,trivial⟩) gM (fun X hX hG=>xR hX hG) rfl rfl eA ?_ w hw)
 refine bD aSq (fun h0=>?_) (fun h0=>?_)
 ·skip
  refine aG aSD ?_
  refine⟨rfl,?_⟩;simp only[nn]at *;(try simp only[G,fM,iS,gR,dB,dY]at *);first|(have hk:¬fN ⟨x0,x1⟩ ⟨x2,x3⟩ ⟨x4,x5⟩ ⟨x6,x7⟩:=(by unfold fN Ed.ok;dsimp only;omega);simp only[wt,if_neg hk])|(have hk:fN ⟨x0,x1⟩ ⟨x2,x3⟩ ⟨x4,x5⟩ ⟨x6,x7⟩:=(by unfold fN Ed.ok;dsimp only;omega);simp only[wt,if_pos hk,Ed.cross];rfl)
 refine bD aSK (fun h1=>?_) (fun h1=>?_)
 ·skip
  refine aG aR4 ?_
  refine⟨rfl,?_⟩;simp only[nn]at *;(try simp only[G,fM,iS,gR,dB,dY]at *);first|(have hk:¬fN ⟨x0,x1⟩ ⟨x2,x3⟩ ⟨x4,x5⟩ ⟨x6,x7⟩:=(by unfold fN Ed.ok;dsimp only;omega);simp only[wt,if_neg hk])|(have hk:fN ⟨x0,x1⟩ ⟨x2,x3⟩ ⟨x4,x5⟩ ⟨x6,x7⟩:=(by unfold fN Ed.ok;dsimp only;omega);simp only[wt,if_pos hk,Ed.cross];rfl)
 refine bD aSf (fun h2=>?_) (fun h2=>?_)
 ·skip
  refine aG aSy ?_
  refine⟨rfl,?_⟩;simp only[nn]at *;(try simp only[G,fM,iS,gR,dB,dY]at *);first|(have hk:¬fN ⟨x0,x1⟩ ⟨x2,x3⟩ ⟨x4,x5⟩ ⟨x6,x7⟩:=(by unfold fN Ed.ok;dsimp only;omega);simp only[wt,if_neg hk])|(have hk:fN ⟨x0,x1⟩ ⟨x2,x3⟩ ⟨x4,x5⟩ ⟨x6,x7⟩:=(by unfold fN Ed.ok;dsimp only;omega);simp only[wt,if_pos hk,Ed.cross];rfl)
 refine bD aSv (fun h3=>?_) (fun h3=>?_)
 ·skip
  refine aG aSB ?_
  refine⟨rfl,?_⟩;simp only[nn]at *;(try simp only[G,fM,iS,gR,dB,dY]at *);first|(have hk:¬fN ⟨x0,x1⟩ ⟨x2,x3⟩ ⟨x4,x5⟩ ⟨x6,x7⟩:=(by unfold fN Ed.ok;dsimp only;omega);simp only[wt,if_neg hk])|(have hk:fN ⟨x0,x1⟩ ⟨x2,x3⟩ ⟨x4,x5⟩ ⟨x6,x7⟩:=(by unfold fN Ed.ok;dsimp only;omega);simp only[wt,if_pos hk,Ed.cross];rfl)
 refine bD aSG (fun h4=>?_) (fun h4=>?_)
 ·skip
  refine aG aSk ?_
  refine⟨rfl,?_⟩;simp only[nn]at *;(try simp only[G,fM,iS,gR,dB,dY]at *);first|(have hk:¬fN ⟨x0,x1⟩ ⟨x2,x3⟩ ⟨x4,x5⟩ ⟨x6,x7⟩:=(by unfold fN Ed.ok;dsimp only;omega);simp only[wt,if_neg hk])|(have hk:fN ⟨x0,x1⟩ ⟨x2,x3⟩ ⟨x4,x5⟩ ⟨x6,x7⟩:=(by unfold fN Ed.ok;dsimp only;omega);simp only[wt,if_pos hk,Ed.cross];rfl)
 refine bD aRr (fun h5=>?_) (fun h5=>?_)
 ·skip
  refine aG aQG ?_
  refine⟨rfl,?_⟩;simp only[nn]at *;(try simp only[G,fM,iS,gR,dB,dY]at *);first|(have hk:¬fN ⟨x0,x1⟩ ⟨x2,x3⟩ ⟨x4,x5⟩ ⟨x6,x7⟩:=(by unfold fN Ed.ok;dsimp only;omega);simp only[wt,if_neg hk])|(have hk:fN ⟨x0,x1⟩ ⟨x2,x3⟩ ⟨x4,x5⟩ ⟨x6,x7⟩:=(by unfold fN Ed.ok;dsimp only;omega);simp only[wt,if_pos hk,Ed.cross];rfl)
 refine bD aQF (fun h6=>?_) (fun h6=>?_)
 ·skip
  refine aG aQ9 ?_
  refine⟨rfl,?_⟩;simp only[nn]at *;(try simp only[G,fM,iS,gR,dB,dY]at *);first|(have hk:¬fN ⟨x0,x1⟩ ⟨x2,x3⟩ ⟨x4,x5⟩ ⟨x6,x7⟩:=(by unfold fN Ed.ok;dsimp only;omega);simp only[wt,if_neg hk])|(have hk:fN ⟨x0,x1⟩ ⟨x2,x3⟩ ⟨x4,x5⟩ ⟨x6,x7⟩:=(by unfold fN Ed.ok;dsimp only;omega);simp only[wt,if_pos hk,Ed.cross];rfl)
 refine bD aQP (fun h7=>?_) (fun h7=>?_)
 ·skip
  refine aG aRs ?_
  refine⟨rfl,?_⟩;simp only[nn]at *;(try simp only[G,fM,iS,gR,dB,dY]at *);first|(have hk:¬fN ⟨x0,x1⟩ ⟨x2,x3⟩ ⟨x4,x5⟩ ⟨x6,x7⟩:=(by unfold fN Ed.ok;dsimp only;omega);simp only[wt,if_neg hk])|(have hk:fN ⟨x0,x1⟩ ⟨x2,x3⟩ ⟨x4,x5⟩ ⟨x6,x7⟩:=(by unfold fN Ed.ok;dsimp only;omega);simp only[wt,if_pos hk,Ed.cross];rfl)
 refine aG aQS ?_
 refine⟨rfl,?_⟩;simp only[nn]at *;(try simp only[G,fM,iS,gR,dB,dY]at *);first|(have hk:¬fN ⟨x0,x1⟩ ⟨x2,x3⟩ ⟨x4,x5⟩ ⟨x6,x7⟩:=(by unfold fN Ed.ok;dsimp only;omega);simp only[wt,if_neg hk])|(have hk:fN ⟨x0,x1⟩ ⟨x2,x3⟩ ⟨x4,x5⟩ ⟨x6,x7⟩:=(by unfold fN Ed.ok;dsimp only;omega);simp only[wt,if_pos hk,Ed.cross];rfl)
def aAc:iI:=fun X args=>
 match args with
 |[(.agg [.int .i64 a0,.int .i64 a1,.int .i64 a2,.int .i64 a3,.int .i64 a4,.int .i64 a5]),(.agg [.int .i64 a6,.int .i64 a7])]=>if a0.fits X .i64 && a1.fits X .i64 && a2.fits X .i64 && a3.fits X .i64 && a4.fits X .i64 && a5.fits X .i64 && a6.fits X .i64 && a7.fits X .i64 then .ok (.agg [.int .i64 (.app 64 (.cons a0 (.cons a1 (.cons a2 (.cons a3 (.cons a4 (.cons a5 (.cons a6 (.cons a7 .nil))))))))),.int .i64 (.app 65 (.cons a0 (.cons a1 (.cons a2 (.cons a3 (.cons a4 (.cons a5 (.cons a6 (.cons a7 .nil))))))))),.int .i64 (.app 66 (.cons a0 (.cons a1 (.cons a2 (.cons a3 (.cons a4 (.cons a5 (.cons a6 (.cons a7 .nil)))))))))]) else .fail 200
 |_ => .fail 201
theorem aSu {X:Ctx} {ρ:Nat→Int} (hX:X.Ok ρ) (hG:X.G=G):dT Try.prog X ρ GB 16 aAc:=by
 obtain⟨XG,XI,XV,XF⟩:=X
 simp only at hG
 subst hG
 intro args s h α w vals hv hw
 unfold aAc at h
 split at h
 ·split at h
  ·rename_i hg
   try simp only[Bool.and_eq_true]at hg
   obtain⟨⟨⟨⟨⟨⟨⟨g0,g1⟩,g2⟩,g3⟩,g4⟩,g5⟩,g6⟩,g7⟩:=hg
   cases h
   exact bB hv rfl rfl (aRi _ _ _ _ _ _ _ _ (E.fits_in hX g0) (E.fits_in hX g1) (E.fits_in hX g2) (E.fits_in hX g3) (E.fits_in hX g4) (E.fits_in hX g5) (E.fits_in hX g6) (E.fits_in hX g7) w hw)
  ·cases h
 ·cases h
def aDM:aX:=eI 13 pF aG6
theorem aDy {X:Ctx} {ρ:Nat→Int} (hX:X.Ok ρ) (hG:X.G=G):gL Try.prog X ρ GB aDM:=bX (aKf hX hG) (xR hX hG)
def aK8:aX:=eI 16 aAc aDM
theorem aDt {X:Ctx} {ρ:Nat→Int} (hX:X.Ok ρ) (hG:X.G=G):gL Try.prog X ρ GB aK8:=bX (aSu hX hG) (aDy hX hG)
theorem aFr {x y:Int} (h:x<y):dY [hi x,lo x,hi y,lo y] = -1:=by
 unfold hi lo;simp only[dY]
 by_cases a:x / 18446744073709551616<y / 18446744073709551616
 ·rw[if_pos a]
 ·rw[if_neg a,if_neg (by omega),if_pos (by omega)]
theorem aLE (x:Int):dY [hi x,lo x,hi x,lo x]=0:=by
 simp only[dY]
 rw[if_neg (by omega),if_neg (by omega),if_neg (by omega),if_neg (by omega)]
theorem aFE {x y:Int} (h:y<x):dY [hi x,lo x,hi y,lo y]=1:=by
 unfold hi lo;simp only[dY]
 by_cases a:y / 18446744073709551616<x / 18446744073709551616
 ·rw[if_neg (by omega),if_pos a]
 ·rw[if_neg (by omega),if_neg a,if_neg (by omega),if_pos (by omega)]
theorem aRe (x y:Int):dY [hi x,lo x,hi y,lo y]=fM [x-y]:=by
 rcases Int.lt_trichotomy x y with h|h|h
 ·rw[aFr h];simp only[fM];unfold Ed.sg;rw[if_pos (by omega)]
 ·subst h;rw[aLE];simp only[fM];unfold Ed.sg;rw[if_neg (by omega),if_neg (by omega)]
 ·rw[aFE h];simp only[fM];unfold Ed.sg;rw[if_neg (by omega),if_pos (by omega)]
def aSn (f:E):Option Bool:=
 match f with
 | .lit n=>some (decide (0≤n))
 |_=>none
def oV:iI:=fun X args=>
 match args with
 |[.agg [.int .i64 a,.int .u64 b],.agg [.int .i64 c,.int .u64 d]]=>match wide? X a b,wide? X c d with
  |some e,some f=>if tC X e && tC X f then match aSn f with
    |some true=>(Res.test X (.cmp .lt f e)).bind fun u=>if u then .ok (.int .i64 (.lit 1)) else .ok (.int .i64 (.app 60 (.cons (.op .sub e f) .nil)))
    |some false=>(Res.test X (.cmp .lt e f)).bind fun t=>if t then .ok (.int .i64 (.lit (-1))) else .ok (.int .i64 (.app 60 (.cons (.op .sub e f) .nil)))
    |none=>(Res.test X (.cmp .lt e f)).bind fun t=>if t then .ok (.int .i64 (.lit (-1))) else (Res.test X (.cmp .lt f e)).bind fun u=>if u then .ok (.int .i64 (.lit 1)) else .ok (.int .i64 (.lit 0))
   else .fail 200
  |_,_ => .fail 202
 |_ => .fail 201
theorem aLn {X:Ctx} {ρ:Nat→Int} (hX:X.Ok ρ) (hG:X.G=G):dT Try.prog X ρ GB 22 oV:=by
 obtain⟨XG,XI,XV,XF⟩:=X
 simp only at hG
 subst hG
 intro args s h α w vals hv hw
 unfold oV at h
 split at h
 ·split at h
  ·rename_i a b c d _ _ e f he hf
   split at h
   ·rename_i hg
    simp only[Bool.and_eq_true]at hg
    obtain⟨e1,e2⟩:=wide?_den hX rfl he
    obtain⟨f1,f2⟩:=wide?_den hX rfl hf
    have be:=hZ hX hg.1
    have bf:=hZ hX hg.2
    have k:=aDj (hi (e.den G ρ)) (lo (e.den G ρ)) (hi (f.den G ρ)) (lo (f.den G ρ)) (aK9 _ be) (by have:=nS (e.den G ρ);unfold dZ at this;omega) (aK9 _ bf) (by have:=nS (f.den G ρ);unfold dZ at this;omega) w hw
    have ks:dY [hi (e.den G ρ),lo (e.den G ρ),hi (f.den G ρ),lo (f.den G ρ)]=fM [e.den G ρ-f.den G ρ]:=aRe _ _
    split at h
    ·obtain⟨u,hu,h⟩:=Res.bind_ok h
     have hu:=Res.test_ok hX hu
     cases u with
     |true=>
      simp only[if_true]at h
      have hgt:f.den G ρ<e.den G ρ:=of_decide_eq_true hu
      rw[aFE hgt,←e1,←e2,←f1,←f2]at k
      cases h
      exact bB hv rfl rfl k
     |false=>
      simp only[Bool.false_eq_true,if_false]at h
      rw[ks,←e1,←e2,←f1,←f2]at k
      cases h
      exact bB hv rfl rfl k
    ·obtain⟨t,ht,h⟩:=Res.bind_ok h
     have ht:=Res.test_ok hX ht
     cases t with
     |true=>
      simp only[if_true]at h
      have hlt:e.den G ρ<f.den G ρ:=of_decide_eq_true ht
      rw[aFr hlt,←e1,←e2,←f1,←f2]at k
      cases h
      exact bB hv rfl rfl k
     |false=>
      simp only[Bool.false_eq_true,if_false]at h
      rw[ks,←e1,←e2,←f1,←f2]at k
      cases h
      exact bB hv rfl rfl k
    ·skip
     obtain⟨t,ht,h⟩:=Res.bind_ok h
     have ht:=Res.test_ok hX ht
     cases t with
     |true=>
      simp only[if_true]at h
      have hlt:e.den G ρ<f.den G ρ:=of_decide_eq_true ht
      rw[aFr hlt,←e1,←e2,←f1,←f2]at k
      cases h
      exact bB hv rfl rfl k
     |false=>
      simp only[Bool.false_eq_true,if_false]at h
      have hge:¬e.den G ρ<f.den G ρ:=of_decide_eq_false ht
      obtain⟨u,hu,h⟩:=Res.bind_ok h
      have hu:=Res.test_ok hX hu
      cases u with
      |true=>
       simp only[if_true]at h
       have hgt:f.den G ρ<e.den G ρ:=of_decide_eq_true hu
       rw[aFE hgt,←e1,←e2,←f1,←f2]at k
       cases h
       exact bB hv rfl rfl k
      |false=>
       simp only[Bool.false_eq_true,if_false]at h
       have hle:¬f.den G ρ<e.den G ρ:=of_decide_eq_false hu
       have heq:e.den G ρ=f.den G ρ:=by omega
       have hz:=aLE (e.den G ρ)
       have hz':dY [hi (e.den G ρ),lo (e.den G ρ),hi (f.den G ρ),lo (f.den G ρ)]=0:=by rw[←heq];exact hz
       rw[hz',←e1,←e2,←f1,←f2]at k
       cases h
       exact bB hv rfl rfl k
   ·cases h
  ·cases h
 ·cases h
def vQ:aX:=eI 22 oV aK8
theorem lS {X:Ctx} {ρ:Nat→Int} (hX:X.Ok ρ) (hG:X.G=G):gL Try.prog X ρ GB vQ:=bX (aLn hX hG) (aDt hX hG)
end Go.Proofs.Ytoiecphddchknaa
