/- What is proved: the contracts of numbers,as entries. The conditions are the numbers' own bounds. -/
import Derived.Test.YtkpdiehbaiepaaaQa8
import Derived.Test.YtkpdiehbaiepaaaQPg
import Derived.Test.YtkpdiehbaiepaaaQg6
import Derived.Test.YtkpdiehbaiepaaaQg3
import Derived.Test.YtkpdiehbaiepaaaQNn
set_option linter.unusedSimpArgs false
set_option linter.unusedVariables false
namespace Go.Proofs.Ytkpdiehbaiepaaa
open Go Go.RowKit Sx Nu Wi
def mT:eU:=fun X args=>
 match args with
 |[.int .i64 a]=>if a.fits X .i64 then (Res.test X (.cmp .lt a (.lit 0))).bind fun t=>if t then .ok (.agg (.bool (.lit true)::aK (E.mkOp .sub (.lit 0) a))) else .ok (.agg (.bool (.lit false)::aK a)) else .fail 225
 |_ => .fail 201
set_option maxRecDepth 100000 in
theorem aRM {X:Ctx} {ρ:Nat→Int} (hX:X.Ok ρ) (hG:X.G=G):dD Try.prog X ρ GB 138 mT:=by
 obtain⟨XG,XI,XV,XF⟩:=X
 simp only at hG
 subst hG
 intro args s h α w vals hv hw
 unfold mT at h
 split at h
 ·rename_i a
  split at h
  ·rename_i hg
   replace h:=Res.bind_ok h;obtain⟨t,ht,h⟩:=h
   have ht:=Res.test_ok hX ht
   have k:=aMY (a.den G ρ) (E.fits_in hX hg) w hw
   cases t with
   |true=>
    cases h
    simp only[B.den,kN,decide_eq_true_eq,E.den]at ht
    refine bC hv rfl rfl ?_
    rw[if_pos ht,decide_eq_true ht]at k
    have e2:SV.den G ρ (.agg (.bool (.lit true)::aK (E.mkOp .sub (.lit 0) a))) = .agg (.bool true::eA (0-E.den G ρ a)).toArray:=by simp only[SV.den,SV.denL,jU,E.mkOp_den,aCJ,B.den,E.den]
    rw[e2]
    exact k
   |false=>
    cases h
    simp only[B.den,kN,decide_eq_false_iff_not,E.den]at ht
    refine bC hv rfl rfl ?_
    rw[if_neg ht,decide_eq_false ht]at k
    exact k
  ·cases h
 ·cases h
def oM:eU:=fun X args=>
 match args with
 |[.agg [.int .i64 p,.int .u64 q]]=>match wide? p q with
  |some a=>if aA3 X a then (Res.test X (.cmp .lt a (.lit 0))).bind fun t=>if t then .ok (.agg (.bool (.lit true)::aK (E.mkOp .sub (.lit 0) a))) else .ok (.agg (.bool (.lit false)::aK a)) else .fail 226
  |none => .fail 227
 |_ => .fail 201
set_option maxRecDepth 100000 in
theorem aWB {X:Ctx} {ρ:Nat→Int} (hX:X.Ok ρ) (hG:X.G=G):dD Try.prog X ρ GB 123 oM:=by
 obtain⟨XG,XI,XV,XF⟩:=X
 simp only at hG
 subst hG
 intro args s h α w vals hv hw
 unfold oM at h
 split at h
 ·rename_i p q
  split at h
  ·rename_i a ha
   obtain⟨d1,d2⟩:=wide?_den (ρ:=ρ) ha
   split at h
   ·rename_i hg
    have g:iF (a.den G ρ):=jG hX hg
    have k0:=aPk (a.den G ρ) (by unfold iF at g;omega) w hw
    have e:SV.denL G ρ [.agg [.int .i64 p,.int .u64 q]]=[.agg #[.int .i64 (hi (a.den G ρ)),.int .u64 (lo (a.den G ρ))]]:=by simp only[SV.denL,SV.den,d1,d2]
    rw[←show (SV.denL G ρ [.agg [.int .i64 p,.int .u64 q]]).toArray=#[.agg #[.int .i64 (hi (a.den G ρ)),.int .u64 (lo (a.den G ρ))]]from by rw[e]]at k0
    replace h:=Res.bind_ok h;obtain⟨t,ht,h⟩:=h
    have ht:=Res.test_ok hX ht
    have k:=k0
    cases t with
    |true=>
     cases h
     simp only[B.den,kN,decide_eq_true_eq,E.den]at ht
     refine bC hv rfl rfl ?_
     rw[if_pos ht,decide_eq_true ht]at k
     have e2:SV.den G ρ (.agg (.bool (.lit true)::aK (E.mkOp .sub (.lit 0) a))) = .agg (.bool true::eA (0-E.den G ρ a)).toArray:=by simp only[SV.den,SV.denL,jU,E.mkOp_den,aCJ,B.den,E.den]
     rw[e2]
     exact k
    |false=>
     cases h
     simp only[B.den,kN,decide_eq_false_iff_not,E.den]at ht
     refine bC hv rfl rfl ?_
     rw[if_neg ht,decide_eq_false ht]at k
     exact k
   ·cases h
  ·cases h
 ·cases h
def pM:eU:=fun X args=>
 match args with
 |[.agg (.bool b::l)]=>(jD X l).bind fun N=>(Res.test X (yS N 0 6277101735386680763835789423207666416102355444464034512895)).bind fun p=>if p then (Res.test X b).bind fun s=>(Res.test X (yS (if s then E.mkOp .sub (.lit 0) N else N) (-170141183460469231731687303715884105728) 170141183460469231731687303715884105727)).bind fun t=>if t then .ok (.tuple [W2 (if s then E.mkOp .sub (.lit 0) N else N),.int .i64 (.lit 0)]) else .ok (.tuple [.agg [.int .i64 (.lit 0),.int .u64 (.lit 0)],.int .i64 (.lit 11)]) else .fail 228
 |_ => .fail 201
set_option maxRecDepth 100000 in
theorem aZa {X:Ctx} {ρ:Nat→Int} (hX:X.Ok ρ) (hG:X.G=G):dD Try.prog X ρ GB 121 pM:=by
 obtain⟨XG,XI,XV,XF⟩:=X
 simp only at hG
 subst hG
 intro args s h α w vals hv hw
 unfold pM at h
 split at h
 ·rename_i b l
  replace h:=Res.bind_ok h;obtain⟨N,hN,h⟩:=h
  obtain⟨u1,d1⟩:=eV hX hN
  replace h:=Res.bind_ok h;obtain⟨p,hp,h⟩:=h
  have hp:=Res.test_ok hX hp
  cases p with
  |false=>cases h
  |true=>
  have gN:=eE hp
  simp only[if_true]at h
  replace h:=Res.bind_ok h;obtain⟨s1,hs,h⟩:=h
  have hs:=Res.test_ok hX hs
  replace h:=Res.bind_ok h;obtain⟨t,ht,h⟩:=h
  have ht:=Res.test_ok hX ht
  have ub:SV.ubdL 0 [.agg (.bool b::l)]=true:=by simp only[SV.ubdL,SV.ubd,u1,Bool.and_self]
  have e:SV.denL G ρ [.agg (.bool b::l)]=[.agg (.bool s1::eA (N.den G ρ)).toArray]:=by simp only[SV.denL,SV.den,d1];rw[show b.den G ρ=s1 from hs]
  have k:=aS2 (if s1=true then 1 else 0) (N.den G ρ) (by split<;>decide) gN w hw
  have eb:(!decide ((if s1=true then (1:Int) else 0)=0))=s1:=by cases s1<;>rfl
  rw[eb]at k
  have ew:(if (if s1=true then (1:Int) else 0)=0 then N.den G ρ else 0-N.den G ρ)=(if s1 then E.mkOp .sub (.lit 0) N else N).den G ρ:=by
   cases s1
   ·simp
   ·simp only[if_true];rw[if_neg (by decide),E.mkOp_den];rfl
  rw[ew]at k
  unfold hJ at k
  generalize (if s1 then E.mkOp .sub (.lit 0) N else N)=Wx at *
  cases t with
  |true=>
   have g:=eE ht
   rw[if_pos g]at k
   cases h
   refine bC hv ub rfl ?_
   rw[e]
   exact k
  |false=>
   have g:¬(-170141183460469231731687303715884105728≤Wx.den G ρ∧Wx.den G ρ≤170141183460469231731687303715884105727):=by
    intro z
    simp only[yS,B.den,kJ,E.den]at ht
    rw[decide_eq_true z.1,decide_eq_true z.2]at ht
    cases ht
   rw[if_neg g]at k
   cases h
   refine bC hv ub rfl ?_
   rw[e]
   exact k
 ·cases h
def aDn (s t:Bool) (N:E):E:=if s !=t then E.mkOp .sub (.lit 0) N else N
def kT:eU:=fun X args=>
 match args with
 |[.agg (.bool b::l),.agg (.bool c::m)]=>(jD X l).bind fun N=>(jD X m).bind fun M=>(Res.test X (yS N 0 1532495540865888858358347027150309183618739122183602176)).bind fun p=>(Res.test X (yS M 1 1532495540865888858358347027150309183618739122183602176)).bind fun q=>if p && q then (Res.test X b).bind fun s=>(Res.test X c).bind fun t => .ok (.agg (.bool (.cmp .le (.op .add (.op .mul (.lit 2) (aDn s t N)) M) (.lit 0))::aK (.op .max (.app 2 (.cons (aDn s t N) (.cons M .nil))) (.op .sub (.lit 0) (.app 2 (.cons (aDn s t N) (.cons M .nil))))))) else .fail 229
 |_ => .fail 201
set_option maxRecDepth 100000 in
theorem aIA {X:Ctx} {ρ:Nat→Int} (hX:X.Ok ρ) (hG:X.G=G):dD Try.prog X ρ GB 139 kT:=by
 obtain⟨XG,XI,XV,XF⟩:=X
 simp only at hG
 subst hG
 intro args s h α w vals hv hw
 unfold kT at h
 split at h
 ·rename_i b a c d
  replace h:=Res.bind_ok h;obtain⟨N,hN,h⟩:=h
  replace h:=Res.bind_ok h;obtain⟨M,hM,h⟩:=h
  replace h:=Res.bind_ok h;obtain⟨p,hp,h⟩:=h
  replace h:=Res.bind_ok h;obtain⟨q,hq,h⟩:=h
  have hp:=Res.test_ok hX hp
  have hq:=Res.test_ok hX hq
  split at h
  ·rename_i hg
   simp only[Bool.and_eq_true]at hg
   obtain⟨rfl,rfl⟩:=hg
   have gN:=eE hp
   have gM:=eE hq
   obtain⟨u1,d1⟩:=eV hX hN
   obtain⟨u2,d2⟩:=eV hX hM
   replace h:=Res.bind_ok h;obtain⟨s1,hs1,h⟩:=h
   replace h:=Res.bind_ok h;obtain⟨s2,hs2,h⟩:=h
   have hs1:=Res.test_ok hX hs1
   have hs2:=Res.test_ok hX hs2
   cases h
   have k:=aEV (if s1=true then 1 else 0) (N.den G ρ) (if s2=true then 1 else 0) (M.den G ρ) (by split<;>decide) gN (by split<;>decide) gM w hw
   have eb:∀ b:Bool,(!decide ((if b=true then (1:Int) else 0)=0))=b:=by intro b;cases b<;>rfl
   rw[eb,eb]at k
   have en:aI (if s1=true then 1 else 0) (N.den G ρ) (if s2=true then 1 else 0)=(aDn s1 s2 N).den G ρ:=by
    cases s1<;>cases s2<;>simp [aI,aDn,E.mkOp_den,IOp.den,E.den]
   rw[en]at k
   refine bC hv (by simp only[SV.ubdL,SV.ubd,u1,u2,Bool.and_self]) rfl ?_
   have e:SV.denL G ρ [.agg (.bool b::a),.agg (.bool c::d)]=[.agg (.bool s1::eA (N.den G ρ)).toArray,.agg (.bool s2::eA (M.den G ρ)).toArray]:=by simp only[SV.denL,SV.den,d1,d2];rw[show b.den G ρ=s1 from hs1,show c.den G ρ=s2 from hs2]
   rw[e]
   rw[←aLe]at k
   exact k
  ·cases h
 ·cases h
def aGn:aZ:=dR 138 mT iL
theorem aGE {X:Ctx} {ρ:Nat→Int} (hX:X.Ok ρ) (hG:X.G=G):eO Try.prog X ρ GB aGn:=cD (aRM hX hG) (gD hX hG)
def aLs:aZ:=dR 123 oM aGn
theorem aIE {X:Ctx} {ρ:Nat→Int} (hX:X.Ok ρ) (hG:X.G=G):eO Try.prog X ρ GB aLs:=cD (aWB hX hG) (aGE hX hG)
def aLK:aZ:=dR 121 pM aLs
theorem aJZ {X:Ctx} {ρ:Nat→Int} (hX:X.Ok ρ) (hG:X.G=G):eO Try.prog X ρ GB aLK:=cD (aZa hX hG) (aIE hX hG)
def iI:aZ:=dR 139 kT aLK
theorem gA {X:Ctx} {ρ:Nat→Int} (hX:X.Ok ρ) (hG:X.G=G):eO Try.prog X ρ GB iI:=cD (aIA hX hG) (aJZ hX hG)
set_option maxRecDepth 100000
open Go Go.RowKit Sx Wi
def aQD (P:Program) (fs:List B):Res SV:=bK G GI [zzI] fs (fun X=>gU P X GB iI 3000 112 [.int .i64 (.var 0)])
def aQm:List B:=[]
def aRN:B:=(.cmp .lt (.var 0) (.lit 0))
def bA5:List B:=aH aRN++aQm
def bCH:List B:=aH (B.neg aRN)++aQm
theorem bDj:aQD Try.prog bA5 = .ok (.agg [(.int .i64 (.lit (-1))),(.int .u64 (.wrap .u64 (.var 0)))]):=by kernel_rfl
theorem bCW:aQD Try.prog bCH = .ok (.agg [(.int .i64 (.lit 0)),(.int .u64 (.var 0))]):=by kernel_rfl
set_option maxRecDepth 100000
open Go Go.RowKit Sx Wi
def pN (P:Program) (fs:List B):Res SV:=bK G GI [((-170141183460469231731687303715884105728),170141183460469231731687303715884105727)] fs (fun X=>gU P X GB iI 3000 126 [.agg [.int .i64 (.app 0 (.cons (.var 0) .nil)),.int .u64 (.app 1 (.cons (.var 0) .nil))]])
def aKc:List B:=[]
def aKq:B:=(.cmp .lt (.var 0) (.lit 0))
def aK8:List B:=aH aKq++aKc
def aMo:B:=(.cmp .lt (.op .sub (.lit 0) (.var 0)) (.lit 9223372036854775808))
def aYK:List B:=aH aMo++aK8
def aKw:List B:=aH (B.neg aMo)++aK8
def aMf:B:=(.cmp .lt (.lit 9223372036854775808) (.op .sub (.lit 0) (.var 0)))
def aWu:List B:=aH aMf++aKw
def aWC:List B:=aH (B.neg aMf)++aKw
def aKo:List B:=aH (B.neg aKq)++aKc
def aMw:B:=(.cmp .lt (.var 0) (.lit 9223372036854775807))
def aXh:List B:=aH aMw++aKo
def aMi:List B:=aH (B.neg aMw)++aKo
def aL9:B:=(.cmp .lt (.lit 9223372036854775807) (.var 0))
def aXU:List B:=aH aL9++aMi
def aO7:List B:=aH (B.neg aL9)++aMi
theorem aXL:pN Try.prog aYK = .ok (.tuple [(.int .i64 (.wrap .i64 (.app 1 (.cons (.var 0) .nil)))),(.bool (.lit true))]):=by kernel_rfl
theorem aWg:pN Try.prog aWu = .ok (.tuple [(.int .i64 (.lit 0)),(.bool (.lit false))]):=by kernel_rfl
theorem aV3:pN Try.prog aWC = .ok (.tuple [(.int .i64 (.wrap .i64 (.app 1 (.cons (.var 0) .nil)))),(.bool (.lit true))]):=by kernel_rfl
theorem aX0:pN Try.prog aXh = .ok (.tuple [(.int .i64 (.app 1 (.cons (.var 0) .nil))),(.bool (.lit true))]):=by kernel_rfl
theorem aZs:pN Try.prog aXU = .ok (.tuple [(.int .i64 (.lit 0)),(.bool (.lit false))]):=by kernel_rfl
theorem aT2:pN Try.prog aO7 = .ok (.tuple [(.int .i64 (.app 1 (.cons (.var 0) .nil))),(.bool (.lit true))]):=by kernel_rfl
set_option maxRecDepth 100000
open Go Go.RowKit Sx Wi
def kI (P:Program) (fs:List B):Res SV:=bK G GI [((-85070591730234615865843651857942052864),85070591730234615865843651857942052864),((-85070591730234615865843651857942052864),85070591730234615865843651857942052864)] fs (fun X=>gU P X GB iI 3000 114 [.agg [.int .i64 (.app 0 (.cons (.var 0) .nil)),.int .u64 (.app 1 (.cons (.var 0) .nil))],.agg [.int .i64 (.app 0 (.cons (.var 1) .nil)),.int .u64 (.app 1 (.cons (.var 1) .nil))]])
def aLz:List B:=[]
def aLi:B:=(.cmp .lt (.var 0) (.lit 0))
def aLt:List B:=aH aLi++aLz
def aKW:B:=(.cmp .lt (.var 1) (.lit 0))
def aZb:List B:=aH aKW++aLt
def aLP:List B:=aH (B.neg aKW)++aLt
def aMu:B:=(.cmp .lt (.op .sub (.lit 0) (.var 0)) (.var 1))
def aXa:List B:=aH aMu++aLP
def aYU:B:=(.cmp .le (.lit 0) (.op .sub (.var 1) (.op .sub (.lit 0) (.var 0))))
def aYR:List B:=aH aYU++aXa
def aKE:List B:=aH (B.neg aMu)++aLP
def aK5:B:=(.cmp .lt (.var 1) (.op .sub (.lit 0) (.var 0)))
def aWJ:List B:=aH aK5++aKE
def aXX:B:=(.cmp .le (.lit 0) (.op .sub (.op .sub (.lit 0) (.var 0)) (.var 1)))
def aWm:List B:=aH aXX++aWJ
def aTK:List B:=aH (B.neg aK5)++aKE
def aO5:B:=(.cmp .le (.lit 0) (.op .sub (.op .sub (.lit 0) (.var 0)) (.var 1)))
def aRk:List B:=aH aO5++aTK
def aD8:List B:=aH (B.neg aLi)++aLz
def aFF:B:=(.cmp .lt (.var 1) (.lit 0))
def aG7:List B:=aH aFF++aD8
def aF9:B:=(.cmp .lt (.var 0) (.op .sub (.lit 0) (.var 1)))
def aQQ:List B:=aH aF9++aG7
def aRW:B:=(.cmp .le (.lit 0) (.op .sub (.op .sub (.lit 0) (.var 1)) (.var 0)))
def aQP:List B:=aH aRW++aQQ
def aIo:List B:=aH (B.neg aF9)++aG7
def aH2:B:=(.cmp .lt (.op .sub (.lit 0) (.var 1)) (.var 0))
def aOt:List B:=aH aH2++aIo
def aSF:B:=(.cmp .le (.lit 0) (.op .sub (.var 0) (.op .sub (.lit 0) (.var 1))))
def aSm:List B:=aH aSF++aOt
def aOW:List B:=aH (B.neg aH2)++aIo
def aOJ:B:=(.cmp .le (.lit 0) (.op .sub (.var 0) (.op .sub (.lit 0) (.var 1))))
def aSP:List B:=aH aOJ++aOW
def aEx:List B:=aH (B.neg aFF)++aD8
def aDk:B:=(.cmp .le (.op .add (.var 0) (.var 1)) (.lit 170141183460469231731687303715884105727))
def aUL:List B:=aH aDk++aEx
def aSj:List B:=aH (B.neg aDk)++aEx
theorem aZF:kI Try.prog aZb = .ok (.tuple [(.agg [(.int .i64 (.app 0 (.cons (.op .sub (.lit 0) (.op .add (.op .sub (.lit 0) (.var 0)) (.op .sub (.lit 0) (.var 1)))) .nil))),(.int .u64 (.app 1 (.cons (.op .sub (.lit 0) (.op .add (.op .sub (.lit 0) (.var 0)) (.op .sub (.lit 0) (.var 1)))) .nil)))]),(.int .i64 (.lit 0))]):=by kernel_rfl
theorem aYO:kI Try.prog aYR = .ok (.tuple [(.agg [(.int .i64 (.app 0 (.cons (.op .sub (.var 1) (.op .sub (.lit 0) (.var 0))) .nil))),(.int .u64 (.app 1 (.cons (.op .sub (.var 1) (.op .sub (.lit 0) (.var 0))) .nil)))]),(.int .i64 (.lit 0))]):=by kernel_rfl
theorem aYu:kI Try.prog aWm = .ok (.tuple [(.agg [(.int .i64 (.app 0 (.cons (.op .sub (.lit 0) (.op .sub (.op .sub (.lit 0) (.var 0)) (.var 1))) .nil))),(.int .u64 (.app 1 (.cons (.op .sub (.lit 0) (.op .sub (.op .sub (.lit 0) (.var 0)) (.var 1))) .nil)))]),(.int .i64 (.lit 0))]):=by kernel_rfl
theorem aUd:kI Try.prog aRk = .ok (.tuple [(.agg [(.int .i64 (.app 0 (.cons (.op .sub (.lit 0) (.op .sub (.op .sub (.lit 0) (.var 0)) (.var 1))) .nil))),(.int .u64 (.app 1 (.cons (.op .sub (.lit 0) (.op .sub (.op .sub (.lit 0) (.var 0)) (.var 1))) .nil)))]),(.int .i64 (.lit 0))]):=by kernel_rfl
theorem aPl:kI Try.prog aQP = .ok (.tuple [(.agg [(.int .i64 (.app 0 (.cons (.op .sub (.lit 0) (.op .sub (.op .sub (.lit 0) (.var 1)) (.var 0))) .nil))),(.int .u64 (.app 1 (.cons (.op .sub (.lit 0) (.op .sub (.op .sub (.lit 0) (.var 1)) (.var 0))) .nil)))]),(.int .i64 (.lit 0))]):=by kernel_rfl
theorem aPI:kI Try.prog aSm = .ok (.tuple [(.agg [(.int .i64 (.app 0 (.cons (.op .sub (.var 0) (.op .sub (.lit 0) (.var 1))) .nil))),(.int .u64 (.app 1 (.cons (.op .sub (.var 0) (.op .sub (.lit 0) (.var 1))) .nil)))]),(.int .i64 (.lit 0))]):=by kernel_rfl
theorem aTQ:kI Try.prog aSP = .ok (.tuple [(.agg [(.int .i64 (.app 0 (.cons (.op .sub (.var 0) (.op .sub (.lit 0) (.var 1))) .nil))),(.int .u64 (.app 1 (.cons (.op .sub (.var 0) (.op .sub (.lit 0) (.var 1))) .nil)))]),(.int .i64 (.lit 0))]):=by kernel_rfl
theorem aOY:kI Try.prog aUL = .ok (.tuple [(.agg [(.int .i64 (.app 0 (.cons (.op .add (.var 0) (.var 1)) .nil))),(.int .u64 (.app 1 (.cons (.op .add (.var 0) (.var 1)) .nil)))]),(.int .i64 (.lit 0))]):=by kernel_rfl
theorem aUl:kI Try.prog aSj = .ok (.tuple [(.agg [(.int .i64 (.lit 0)),(.int .u64 (.lit 0))]),(.int .i64 (.lit 11))]):=by kernel_rfl
set_option maxRecDepth 100000
open Go Go.RowKit Sx Wi
def rJ (P:Program) (fs:List B):Res SV:=bK G GI [((-85070591730234615865843651857942052864),85070591730234615865843651857942052864),zzI] fs (fun X=>gU P X GB iI 3000 125 [.agg [.int .i64 (.app 0 (.cons (.var 0) .nil)),.int .u64 (.app 1 (.cons (.var 0) .nil))],.int .i64 (.var 1)])
def aDO:List B:=[]
def aES:B:=(.cmp .lt (.var 1) (.lit 1))
def aRo:List B:=aH aES++aDO
def aGS:List B:=aH (B.neg aES)++aDO
def aE5:B:=(.cmp .lt (.var 0) (.lit 0))
def aHP:List B:=aH aE5++aGS
def aDd:B:=(.cmp .le (.op .add (.op .mul (.lit 2) (.op .sub (.lit 0) (.op .sub (.lit 0) (.var 0)))) (.var 1)) (.lit 0))
def aS5:List B:=aH aDd++aHP
def aOF:List B:=aH (B.neg aDd)++aHP
def aRI:List B:=aH (B.neg aE5)++aGS
theorem aUf:rJ Try.prog aRo = .ok (.tuple [(.agg [(.int .i64 (.lit 0)),(.int .u64 (.lit 0))]),(.int .i64 (.lit 1))]):=by kernel_rfl
theorem aSg:rJ Try.prog aS5 = .ok (.tuple [(.agg [(.int .i64 (.app 0 (.cons (.op .sub (.lit 0) (.op .max (.app 2 (.cons (.op .sub (.lit 0) (.op .sub (.lit 0) (.var 0))) (.cons (.var 1) .nil))) (.op .sub (.lit 0) (.app 2 (.cons (.op .sub (.lit 0) (.op .sub (.lit 0) (.var 0))) (.cons (.var 1) .nil)))))) .nil))),(.int .u64 (.app 1 (.cons (.op .sub (.lit 0) (.op .max (.app 2 (.cons (.op .sub (.lit 0) (.op .sub (.lit 0) (.var 0))) (.cons (.var 1) .nil))) (.op .sub (.lit 0) (.app 2 (.cons (.op .sub (.lit 0) (.op .sub (.lit 0) (.var 0))) (.cons (.var 1) .nil)))))) .nil)))]),(.int .i64 (.lit 0))]):=by kernel_rfl
theorem aOV:rJ Try.prog aOF = .ok (.tuple [(.agg [(.int .i64 (.app 0 (.cons (.op .max (.app 2 (.cons (.op .sub (.lit 0) (.op .sub (.lit 0) (.var 0))) (.cons (.var 1) .nil))) (.op .sub (.lit 0) (.app 2 (.cons (.op .sub (.lit 0) (.op .sub (.lit 0) (.var 0))) (.cons (.var 1) .nil))))) .nil))),(.int .u64 (.app 1 (.cons (.op .max (.app 2 (.cons (.op .sub (.lit 0) (.op .sub (.lit 0) (.var 0))) (.cons (.var 1) .nil))) (.op .sub (.lit 0) (.app 2 (.cons (.op .sub (.lit 0) (.op .sub (.lit 0) (.var 0))) (.cons (.var 1) .nil))))) .nil)))]),(.int .i64 (.lit 0))]):=by kernel_rfl
theorem aSN:rJ Try.prog aRI = .ok (.tuple [(.agg [(.int .i64 (.app 0 (.cons (.op .max (.app 2 (.cons (.var 0) (.cons (.var 1) .nil))) (.op .sub (.lit 0) (.app 2 (.cons (.var 0) (.cons (.var 1) .nil))))) .nil))),(.int .u64 (.app 1 (.cons (.op .max (.app 2 (.cons (.var 0) (.cons (.var 1) .nil))) (.op .sub (.lit 0) (.app 2 (.cons (.var 0) (.cons (.var 1) .nil))))) .nil)))]),(.int .i64 (.lit 0))]):=by kernel_rfl
open Go Go.RowKit Sx Nu Wi
set_option maxHeartbeats 4000000 in
set_option maxRecDepth 100000 in
theorem aYt (x0:Int) (b0:zzi x0) (w:World) (hw:pR GB w):dM Try.prog 112∧Calls Try.prog 112 #[.int .i64 x0] w (fun e w'=>e = .returned (.agg #[.int .i64 (hi x0),.int .u64 (lo x0)])∧Below w.heap.size w w'):=by
 refine dK (dC (ρ:=bT [x0]) (run:=aQD Try.prog) (fun _=>rfl) fits (bL ⟨b0,trivial⟩) dY (fun X hX hG=>gA hX hG) rfl rfl bV ?_ w hw)
 refine aG (.cmp .lt (.var 0) (.lit 0)) (fun h0=>?_) (fun h0=>?_)
 ·skip
  refine aE bDj ?_
  refine⟨rfl,?_⟩;simp only[nn,G,wG,nq]at *;rw[show hi x0 = -1 by unfold hi;omega,←show IntKind.u64.wrap x0=lo x0 from IntKind.wrap_u64 x0]<;>rfl
 refine aE bCW ?_
 refine⟨rfl,?_⟩;simp only[nn,G,wG,nq]at *;rw[show hi x0=0 by unfold hi;omega,show lo x0=x0 by unfold lo;omega]<;>rfl
set_option maxHeartbeats 4000000 in
set_option maxRecDepth 100000 in
theorem aQL (x0:Int) (b0:(-170141183460469231731687303715884105728)≤x0∧x0≤170141183460469231731687303715884105727) (w:World) (hw:pR GB w):dM Try.prog 126∧Calls Try.prog 126 #[.agg #[.int .i64 (hi x0),.int .u64 (lo x0)]] w (fun e w'=>e = .returned ((if -9223372036854775808≤x0∧x0≤9223372036854775807 then .tuple #[.int .i64 x0,.bool true] else .tuple #[.int .i64 0,.bool false]))∧Below w.heap.size w w'):=by
 refine dK (dC (ρ:=bT [x0]) (run:=pN Try.prog) (fun _=>rfl) fits (bL ⟨b0,trivial⟩) dY (fun X hX hG=>gA hX hG) rfl rfl bV ?_ w hw)
 refine aG (.cmp .lt (.var 0) (.lit 0)) (fun h0=>?_) (fun h0=>?_)
 ·skip
  refine aG (.cmp .lt (.op .sub (.lit 0) (.var 0)) (.lit 9223372036854775808)) (fun h1=>?_) (fun h1=>?_)
  ·skip
   refine aE aXL ?_
   refine⟨rfl,?_⟩;simp only[nn,G,wG,nq]at *;rw[if_pos (by omega)];rw[show IntKind.i64.wrap (lo x0)=x0 by simp only[IntKind.wrap_i64,lo];omega]<;>rfl
  refine aG (.cmp .lt (.lit 9223372036854775808) (.op .sub (.lit 0) (.var 0))) (fun h2=>?_) (fun h2=>?_)
  ·skip
   refine aE aWg ?_
   refine⟨rfl,?_⟩;simp only[nn,G,wG,nq]at *;rw[if_neg (by omega)]<;>rfl
  refine aE aV3 ?_
  refine⟨rfl,?_⟩;simp only[nn,G,wG,nq]at *;rw[if_pos (by omega)];rw[show IntKind.i64.wrap (lo x0)=x0 by simp only[IntKind.wrap_i64,lo];omega]<;>rfl
 refine aG (.cmp .lt (.var 0) (.lit 9223372036854775807)) (fun h1=>?_) (fun h1=>?_)
 ·skip
  refine aE aX0 ?_
  refine⟨rfl,?_⟩;simp only[nn,G,wG,nq]at *;rw[if_pos (by omega)];rw[show lo x0=x0 by unfold lo;omega]<;>rfl
 refine aG (.cmp .lt (.lit 9223372036854775807) (.var 0)) (fun h2=>?_) (fun h2=>?_)
 ·skip
  refine aE aZs ?_
  refine⟨rfl,?_⟩;simp only[nn,G,wG,nq]at *;rw[if_neg (by omega)]<;>rfl
 refine aE aT2 ?_
 refine⟨rfl,?_⟩;simp only[nn,G,wG,nq]at *;rw[if_pos (by omega)];rw[show lo x0=x0 by unfold lo;omega]<;>rfl
set_option maxHeartbeats 4000000 in
set_option maxRecDepth 100000 in
theorem aQB (x0 x1:Int) (b0:(-85070591730234615865843651857942052864)≤x0∧x0≤85070591730234615865843651857942052864) (b1:(-85070591730234615865843651857942052864)≤x1∧x1≤85070591730234615865843651857942052864) (w:World) (hw:pR GB w):dM Try.prog 114∧Calls Try.prog 114 #[.agg #[.int .i64 (hi x0),.int .u64 (lo x0)],.agg #[.int .i64 (hi x1),.int .u64 (lo x1)]] w (fun e w'=>e = .returned (hJ (x0+x1))∧Below w.heap.size w w'):=by
 refine dK (dC (ρ:=bT [x0,x1]) (run:=kI Try.prog) (fun _=>rfl) fits (bL ⟨b0,b1,trivial⟩) dY (fun X hX hG=>gA hX hG) rfl rfl bV ?_ w hw)
 refine aG (.cmp .lt (.var 0) (.lit 0)) (fun h0=>?_) (fun h0=>?_)
 ·skip
  refine aG (.cmp .lt (.var 1) (.lit 0)) (fun h1=>?_) (fun h1=>?_)
  ·skip
   refine aE aZF ?_
   refine⟨rfl,?_⟩;have e:(0-((0-x0)+(0-x1)))=(x0+x1):=(by omega);have r : -170141183460469231731687303715884105728≤(x0+x1)∧(x0+x1)≤170141183460469231731687303715884105727:=(by simp only[nn,G,wG,nq]at *;omega);unfold hJ;rw[if_pos r];show Value.tuple #[Value.agg #[Value.int .i64 (hi (0-((0-x0)+(0-x1)))),Value.int .u64 (lo (0-((0-x0)+(0-x1))))],Value.int .i64 0]=_;rw[e]
  refine aG (.cmp .lt (.op .sub (.lit 0) (.var 0)) (.var 1)) (fun h2=>?_) (fun h2=>?_)
  ·skip
   refine aG (.cmp .le (.lit 0) (.op .sub (.var 1) (.op .sub (.lit 0) (.var 0)))) (fun h3=>?_) (fun h3=>?_)
   ·skip
    refine aE aYO ?_
    refine⟨rfl,?_⟩;have e:(x1-(0-x0))=(x0+x1):=(by omega);have r : -170141183460469231731687303715884105728≤(x0+x1)∧(x0+x1)≤170141183460469231731687303715884105727:=(by simp only[nn,G,wG,nq]at *;omega);unfold hJ;rw[if_pos r];show Value.tuple #[Value.agg #[Value.int .i64 (hi (x1-(0-x0))),Value.int .u64 (lo (x1-(0-x0)))],Value.int .i64 0]=_;rw[e]
   refine cB ?_
   exfalso;simp only[nn,G,wG,nq]at *;omega
  refine aG (.cmp .lt (.var 1) (.op .sub (.lit 0) (.var 0))) (fun h3=>?_) (fun h3=>?_)
  ·skip
   refine aG (.cmp .le (.lit 0) (.op .sub (.op .sub (.lit 0) (.var 0)) (.var 1))) (fun h4=>?_) (fun h4=>?_)
   ·skip
    refine aE aYu ?_
    refine⟨rfl,?_⟩;have e:(0-((0-x0)-x1))=(x0+x1):=(by omega);have r : -170141183460469231731687303715884105728≤(x0+x1)∧(x0+x1)≤170141183460469231731687303715884105727:=(by simp only[nn,G,wG,nq]at *;omega);unfold hJ;rw[if_pos r];show Value.tuple #[Value.agg #[Value.int .i64 (hi (0-((0-x0)-x1))),Value.int .u64 (lo (0-((0-x0)-x1)))],Value.int .i64 0]=_;rw[e]
   refine cB ?_
   exfalso;simp only[nn,G,wG,nq]at *;omega
  refine aG (.cmp .le (.lit 0) (.op .sub (.op .sub (.lit 0) (.var 0)) (.var 1))) (fun h4=>?_) (fun h4=>?_)
  ·skip
   refine aE aUd ?_
   refine⟨rfl,?_⟩;have e:(0-((0-x0)-x1))=(x0+x1):=(by omega);have r : -170141183460469231731687303715884105728≤(x0+x1)∧(x0+x1)≤170141183460469231731687303715884105727:=(by simp only[nn,G,wG,nq]at *;omega);unfold hJ;rw[if_pos r];show Value.tuple #[Value.agg #[Value.int .i64 (hi (0-((0-x0)-x1))),Value.int .u64 (lo (0-((0-x0)-x1)))],Value.int .i64 0]=_;rw[e]
  refine cB ?_
  exfalso;simp only[nn,G,wG,nq]at *;omega
 refine aG (.cmp .lt (.var 1) (.lit 0)) (fun h1=>?_) (fun h1=>?_)
 rotate_left
 ·skip
  refine aG (.cmp .le (.op .add (.var 0) (.var 1)) (.lit 170141183460469231731687303715884105727)) (fun h2=>?_) (fun h2=>?_)
  ·skip
   refine aE aOY ?_
   refine⟨rfl,?_⟩;have e:(x0+x1)=(x0+x1):=(by omega);have r : -170141183460469231731687303715884105728≤(x0+x1)∧(x0+x1)≤170141183460469231731687303715884105727:=(by simp only[nn,G,wG,nq]at *;omega);unfold hJ;rw[if_pos r];show Value.tuple #[Value.agg #[Value.int .i64 (hi (x0+x1)),Value.int .u64 (lo (x0+x1))],Value.int .i64 0]=_;rw[e]
  refine aE aUl ?_
  refine⟨rfl,?_⟩;simp only[nn,G,wG,nq]at *;unfold hJ;rw[if_neg (by omega)]<;>rfl
 refine aG (.cmp .lt (.var 0) (.op .sub (.lit 0) (.var 1))) (fun h2=>?_) (fun h2=>?_)
 ·skip
  refine aG (.cmp .le (.lit 0) (.op .sub (.op .sub (.lit 0) (.var 1)) (.var 0))) (fun h3=>?_) (fun h3=>?_)
  ·skip
   refine aE aPl ?_
   refine⟨rfl,?_⟩;have e:(0-((0-x1)-x0))=(x0+x1):=(by omega);have r : -170141183460469231731687303715884105728≤(x0+x1)∧(x0+x1)≤170141183460469231731687303715884105727:=(by simp only[nn,G,wG,nq]at *;omega);unfold hJ;rw[if_pos r];show Value.tuple #[Value.agg #[Value.int .i64 (hi (0-((0-x1)-x0))),Value.int .u64 (lo (0-((0-x1)-x0)))],Value.int .i64 0]=_;rw[e]
  refine cB ?_
  exfalso;simp only[nn,G,wG,nq]at *;omega
 refine aG (.cmp .lt (.op .sub (.lit 0) (.var 1)) (.var 0)) (fun h3=>?_) (fun h3=>?_)
 ·skip
  refine aG (.cmp .le (.lit 0) (.op .sub (.var 0) (.op .sub (.lit 0) (.var 1)))) (fun h4=>?_) (fun h4=>?_)
  ·skip
   refine aE aPI ?_
   refine⟨rfl,?_⟩;have e:(x0-(0-x1))=(x0+x1):=(by omega);have r : -170141183460469231731687303715884105728≤(x0+x1)∧(x0+x1)≤170141183460469231731687303715884105727:=(by simp only[nn,G,wG,nq]at *;omega);unfold hJ;rw[if_pos r];show Value.tuple #[Value.agg #[Value.int .i64 (hi (x0-(0-x1))),Value.int .u64 (lo (x0-(0-x1)))],Value.int .i64 0]=_;rw[e]
  refine cB ?_
  exfalso;simp only[nn,G,wG,nq]at *;omega
 refine aG (.cmp .le (.lit 0) (.op .sub (.var 0) (.op .sub (.lit 0) (.var 1)))) (fun h4=>?_) (fun h4=>?_)
 ·skip
  refine aE aTQ ?_
  refine⟨rfl,?_⟩;have e:(x0-(0-x1))=(x0+x1):=(by omega);have r : -170141183460469231731687303715884105728≤(x0+x1)∧(x0+x1)≤170141183460469231731687303715884105727:=(by simp only[nn,G,wG,nq]at *;omega);unfold hJ;rw[if_pos r];show Value.tuple #[Value.agg #[Value.int .i64 (hi (x0-(0-x1))),Value.int .u64 (lo (x0-(0-x1)))],Value.int .i64 0]=_;rw[e]
 refine cB ?_
 exfalso;simp only[nn,G,wG,nq]at *;omega
set_option maxHeartbeats 4000000 in
set_option maxRecDepth 100000 in
theorem aNQ (x0 x1:Int) (b0:(-85070591730234615865843651857942052864)≤x0∧x0≤85070591730234615865843651857942052864) (b1:zzi x1) (w:World) (hw:pR GB w):dM Try.prog 125∧Calls Try.prog 125 #[.agg #[.int .i64 (hi x0),.int .u64 (lo x0)],.int .i64 x1] w (fun e w'=>e = .returned ((if x1<1 then .tuple #[.agg #[.int .i64 0,.int .u64 0],.int .i64 1] else .tuple #[.agg #[.int .i64 (hi (Fx.near x0 x1)),.int .u64 (lo (Fx.near x0 x1))],.int .i64 0]))∧Below w.heap.size w w'):=by
 refine dK (dC (ρ:=bT [x0,x1]) (run:=rJ Try.prog) (fun _=>rfl) fits (bL ⟨b0,b1,trivial⟩) dY (fun X hX hG=>gA hX hG) rfl rfl bV ?_ w hw)
 refine aG (.cmp .lt (.var 1) (.lit 1)) (fun h0=>?_) (fun h0=>?_)
 ·skip
  refine aE aUf ?_
  refine⟨rfl,?_⟩;simp only[nn,G,wG,nq]at *;rw[if_pos (by omega)]<;>rfl
 refine aG (.cmp .lt (.var 0) (.lit 0)) (fun h1=>?_) (fun h1=>?_)
 rotate_left
 ·skip
  refine aE aSN ?_
  refine⟨rfl,?_⟩;have e:(max (Fx.near x0 x1) (0-(Fx.near x0 x1)))=Fx.near x0 x1:=(by simp only[nn,G,wG,nq]at *;(try rw[show 0-(0-x0)=x0 by omega]at *);obtain⟨l1,l2⟩:=jE x0 x1 (by omega);have l3:=lT x0 x1 (by omega);omega);have hd:¬x1<1:=(by simp only[nn,G,wG,nq]at *;omega);simp only[nn,G,wG,nq]at *;rw[if_neg hd,e]<;>rfl
 refine aG (.cmp .le (.op .add (.op .mul (.lit 2) (.op .sub (.lit 0) (.op .sub (.lit 0) (.var 0)))) (.var 1)) (.lit 0)) (fun h2=>?_) (fun h2=>?_)
 ·skip
  refine aE aSg ?_
  refine⟨rfl,?_⟩;have e:(0-(max (Fx.near (0-(0-x0)) x1) (0-(Fx.near (0-(0-x0)) x1))))=Fx.near x0 x1:=(by simp only[nn,G,wG,nq]at *;(try rw[show 0-(0-x0)=x0 by omega]at *);obtain⟨l1,l2⟩:=jE x0 x1 (by omega);have l3:=lT x0 x1 (by omega);omega);have hd:¬x1<1:=(by simp only[nn,G,wG,nq]at *;omega);simp only[nn,G,wG,nq]at *;rw[if_neg hd,e]<;>rfl
 refine aE aOV ?_
 refine⟨rfl,?_⟩;have e:(max (Fx.near (0-(0-x0)) x1) (0-(Fx.near (0-(0-x0)) x1)))=Fx.near x0 x1:=(by simp only[nn,G,wG,nq]at *;(try rw[show 0-(0-x0)=x0 by omega]at *);obtain⟨l1,l2⟩:=jE x0 x1 (by omega);have l3:=lT x0 x1 (by omega);omega);have hd:¬x1<1:=(by simp only[nn,G,wG,nq]at *;omega);simp only[nn,G,wG,nq]at *;rw[if_neg hd,e]<;>rfl
def sF:eU:=fun X args=>
 match args with
 |[.int .i64 a]=>if a.fits X .i64 then .ok (W2 a) else .fail 230
 |_ => .fail 201
set_option maxRecDepth 100000 in
theorem bBO {X:Ctx} {ρ:Nat→Int} (hX:X.Ok ρ) (hG:X.G=G):dD Try.prog X ρ GB 112 sF:=by
 obtain⟨XG,XI,XV,XF⟩:=X
 simp only at hG
 subst hG
 intro args s h α w vals hv hw
 unfold sF at h
 split at h
 ·split at h
  ·rename_i hg
   cases h
   exact bC hv rfl rfl (aYt _ (E.fits_in hX hg) w hw)
  ·cases h
 ·cases h
def oS:eU:=fun X args=>
 match args with
 |[.agg [.int .i64 p,.int .u64 q]]=>match wide? p q with
  |some a=>if aA3 X a then (Res.test X (yS a (-9223372036854775808) 9223372036854775807)).bind fun t=>if t then .ok (.tuple [.int .i64 a,.bool (.lit true)]) else .ok (.tuple [.int .i64 (.lit 0),.bool (.lit false)]) else .fail 231
  |none => .fail 232
 |_ => .fail 201
set_option maxRecDepth 100000 in
theorem aWZ {X:Ctx} {ρ:Nat→Int} (hX:X.Ok ρ) (hG:X.G=G):dD Try.prog X ρ GB 126 oS:=by
 obtain⟨XG,XI,XV,XF⟩:=X
 simp only at hG
 subst hG
 intro args s h α w vals hv hw
 unfold oS at h
 split at h
 ·rename_i p q
  split at h
  ·rename_i a ha
   obtain⟨d1,d2⟩:=wide?_den (ρ:=ρ) ha
   split at h
   ·rename_i hg
    have g:iF (a.den G ρ):=jG hX hg
    have k:=aQL (a.den G ρ) (by unfold iF at g;omega) w hw
    have e:SV.denL G ρ [.agg [.int .i64 p,.int .u64 q]]=[.agg #[.int .i64 (hi (a.den G ρ)),.int .u64 (lo (a.den G ρ))]]:=by simp only[SV.denL,SV.den,d1,d2]
    rw[←show (SV.denL G ρ [.agg [.int .i64 p,.int .u64 q]]).toArray=#[.agg #[.int .i64 (hi (a.den G ρ)),.int .u64 (lo (a.den G ρ))]]from by rw[e]]at k
    replace h:=Res.bind_ok h;obtain⟨t,ht,h⟩:=h
    have ht:=Res.test_ok hX ht
    cases t with
    |true=>
     have gt:=eE ht
     cases h
     rw[if_pos gt]at k
     exact bC hv rfl rfl k
    |false=>
     have gt:¬(-9223372036854775808≤a.den G ρ∧a.den G ρ≤9223372036854775807):=by
      intro z
      simp only[yS,B.den,kJ,E.den]at ht
      rw[decide_eq_true z.1,decide_eq_true z.2]at ht
      cases ht
     cases h
     rw[if_neg gt]at k
     exact bC hv rfl rfl k
   ·cases h
  ·cases h
 ·cases h
def pL:eU:=fun X args=>
 match args with
 |[.agg [.int .i64 p,.int .u64 q],.agg [.int .i64 r,.int .u64 t]]=>match wide? p q,wide? r t with
  |some a,some b=>(Res.test X (yS a (-85070591730234615865843651857942052864) 85070591730234615865843651857942052864)).bind fun x=>(Res.test X (yS b (-85070591730234615865843651857942052864) 85070591730234615865843651857942052864)).bind fun y=>if x && y then (Res.test X (yS (.op .add a b) (-170141183460469231731687303715884105728) 170141183460469231731687303715884105727)).bind fun z=>if z then .ok (.tuple [W2 (.op .add a b),.int .i64 (.lit 0)]) else .ok (.tuple [.agg [.int .i64 (.lit 0),.int .u64 (.lit 0)],.int .i64 (.lit 11)]) else .fail 233
  |_,_ => .fail 234
 |_ => .fail 201
set_option maxRecDepth 100000 in
theorem aYT {X:Ctx} {ρ:Nat→Int} (hX:X.Ok ρ) (hG:X.G=G):dD Try.prog X ρ GB 114 pL:=by
 obtain⟨XG,XI,XV,XF⟩:=X
 simp only at hG
 subst hG
 intro args s h α w vals hv hw
 unfold pL at h
 split at h
 ·rename_i p q r t
  split at h
  ·rename_i a b ha hb
   obtain⟨d1,d2⟩:=wide?_den (ρ:=ρ) ha
   obtain⟨d3,d4⟩:=wide?_den (ρ:=ρ) hb
   replace h:=Res.bind_ok h;obtain⟨x,hx,h⟩:=h
   replace h:=Res.bind_ok h;obtain⟨y,hy,h⟩:=h
   have hx:=Res.test_ok hX hx
   have hy:=Res.test_ok hX hy
   split at h
   ·rename_i hg
    simp only[Bool.and_eq_true]at hg
    obtain⟨rfl,rfl⟩:=hg
    have k:=aQB (a.den G ρ) (b.den G ρ) (eE hx) (eE hy) w hw
    have e:SV.denL G ρ [.agg [.int .i64 p,.int .u64 q],.agg [.int .i64 r,.int .u64 t]]=[.agg #[.int .i64 (hi (a.den G ρ)),.int .u64 (lo (a.den G ρ))],.agg #[.int .i64 (hi (b.den G ρ)),.int .u64 (lo (b.den G ρ))]]:=by simp only[SV.denL,SV.den,d1,d2,d3,d4]
    rw[←show (SV.denL G ρ [.agg [.int .i64 p,.int .u64 q],.agg [.int .i64 r,.int .u64 t]]).toArray=#[.agg #[.int .i64 (hi (a.den G ρ)),.int .u64 (lo (a.den G ρ))],.agg #[.int .i64 (hi (b.den G ρ)),.int .u64 (lo (b.den G ρ))]]from by rw[e]]at k
    unfold hJ at k
    replace h:=Res.bind_ok h;obtain⟨z,hz,h⟩:=h
    have hz:=Res.test_ok hX hz
    cases z with
    |true=>
     have gz : -170141183460469231731687303715884105728≤a.den G ρ+b.den G ρ∧a.den G ρ+b.den G ρ≤170141183460469231731687303715884105727:=eE hz
     cases h
     rw[if_pos gz]at k
     exact bC hv rfl rfl k
    |false=>
     have gz:¬(-170141183460469231731687303715884105728≤a.den G ρ+b.den G ρ∧a.den G ρ+b.den G ρ≤170141183460469231731687303715884105727):=by
      intro z
      simp only[yS,B.den,kJ,E.den,aK1]at hz
      rw[decide_eq_true z.1,decide_eq_true z.2]at hz
      cases hz
     cases h
     rw[if_neg gz]at k
     exact bC hv rfl rfl k
   ·cases h
  ·cases h
 ·cases h
def mQ:eU:=fun X args=>
 match args with
 |[.agg [.int .i64 p,.int .u64 q],.int .i64 d]=>match wide? p q with
  |some a=>(Res.test X (yS a (-85070591730234615865843651857942052864) 85070591730234615865843651857942052864)).bind fun x=>if x && d.fits X .i64 then (Res.test X (.cmp .lt d (.lit 1))).bind fun z=>if z then .ok (.tuple [.agg [.int .i64 (.lit 0),.int .u64 (.lit 0)],.int .i64 (.lit 1)]) else .ok (.tuple [W2 (.app 2 (.cons a (.cons d .nil))),.int .i64 (.lit 0)]) else .fail 235
  |none => .fail 236
 |_ => .fail 201
set_option maxRecDepth 100000 in
theorem aSH {X:Ctx} {ρ:Nat→Int} (hX:X.Ok ρ) (hG:X.G=G):dD Try.prog X ρ GB 125 mQ:=by
 obtain⟨XG,XI,XV,XF⟩:=X
 simp only at hG
 subst hG
 intro args s h α w vals hv hw
 unfold mQ at h
 split at h
 ·rename_i p q d
  split at h
  ·rename_i a ha
   obtain⟨d1,d2⟩:=wide?_den (ρ:=ρ) ha
   replace h:=Res.bind_ok h;obtain⟨x,hx,h⟩:=h
   have hx:=Res.test_ok hX hx
   split at h
   ·rename_i hg
    simp only[Bool.and_eq_true]at hg
    obtain⟨rfl,hd⟩:=hg
    have k:=aNQ (a.den G ρ) (d.den G ρ) (eE hx) (E.fits_in hX hd) w hw
    have e:SV.denL G ρ [.agg [.int .i64 p,.int .u64 q],.int .i64 d]=[.agg #[.int .i64 (hi (a.den G ρ)),.int .u64 (lo (a.den G ρ))],.int .i64 (d.den G ρ)]:=by simp only[SV.denL,SV.den,d1,d2]
    rw[←show (SV.denL G ρ [.agg [.int .i64 p,.int .u64 q],.int .i64 d]).toArray=#[.agg #[.int .i64 (hi (a.den G ρ)),.int .u64 (lo (a.den G ρ))],.int .i64 (d.den G ρ)]from by rw[e]]at k
    replace h:=Res.bind_ok h;obtain⟨z,hz,h⟩:=h
    have hz:=Res.test_ok hX hz
    cases z with
    |true=>
     simp only[B.den,kN,decide_eq_true_eq,E.den]at hz
     cases h
     rw[if_pos hz]at k
     exact bC hv rfl rfl k
    |false=>
     simp only[B.den,kN,decide_eq_false_iff_not,E.den]at hz
     cases h
     rw[if_neg hz]at k
     exact bC hv rfl rfl k
   ·cases h
  ·cases h
 ·cases h
def aQc:aZ:=dR 112 sF iI
theorem aNh {X:Ctx} {ρ:Nat→Int} (hX:X.Ok ρ) (hG:X.G=G):eO Try.prog X ρ GB aQc:=cD (bBO hX hG) (gA hX hG)
def aMg:aZ:=dR 126 oS aQc
theorem aJF {X:Ctx} {ρ:Nat→Int} (hX:X.Ok ρ) (hG:X.G=G):eO Try.prog X ρ GB aMg:=cD (aWZ hX hG) (aNh hX hG)
def aKD:aZ:=dR 114 pL aMg
theorem aJ6 {X:Ctx} {ρ:Nat→Int} (hX:X.Ok ρ) (hG:X.G=G):eO Try.prog X ρ GB aKD:=cD (aYT hX hG) (aJF hX hG)
def aAH:aZ:=dR 125 mQ aKD
theorem vA {X:Ctx} {ρ:Nat→Int} (hX:X.Ok ρ) (hG:X.G=G):eO Try.prog X ρ GB aAH:=cD (aSH hX hG) (aJ6 hX hG)
set_option maxRecDepth 100000
open Go Go.RowKit Sx Wi
def zH (P:Program) (fs:List B):Res SV:=bK G GI [zzI,zzI] fs (fun X=>gU P X GB aAH 3000 115 [.int .i64 (.var 0),.int .i64 (.var 1)])
def aMq:List B:=[]
def aKH:B:=(.cmp .lt (.var 0) (.lit 0))
def aKU:List B:=aH aKH++aMq
def aKS:B:=(.cmp .lt (.var 1) (.lit 0))
def aZn:List B:=aH aKS++aKU
def aXm:List B:=aH (B.neg aKS)++aKU
def aMs:List B:=aH (B.neg aKH)++aMq
def aK3:B:=(.cmp .lt (.var 1) (.lit 0))
def aZf:List B:=aH aK3++aMs
def aZC:List B:=aH (B.neg aK3)++aMs
theorem aXw:zH Try.prog aZn = .ok (.agg [(.int .i64 (.app 0 (.cons (.op .mul (.op .sub (.lit 0) (.var 0)) (.op .sub (.lit 0) (.var 1))) .nil))),(.int .u64 (.app 1 (.cons (.op .mul (.op .sub (.lit 0) (.var 0)) (.op .sub (.lit 0) (.var 1))) .nil)))]):=by kernel_rfl
theorem aWk:zH Try.prog aXm = .ok (.agg [(.int .i64 (.app 0 (.cons (.op .sub (.lit 0) (.op .mul (.op .sub (.lit 0) (.var 0)) (.var 1))) .nil))),(.int .u64 (.app 1 (.cons (.op .sub (.lit 0) (.op .mul (.op .sub (.lit 0) (.var 0)) (.var 1))) .nil)))]):=by kernel_rfl
theorem aWG:zH Try.prog aZf = .ok (.agg [(.int .i64 (.app 0 (.cons (.op .sub (.lit 0) (.op .mul (.var 0) (.op .sub (.lit 0) (.var 1)))) .nil))),(.int .u64 (.app 1 (.cons (.op .sub (.lit 0) (.op .mul (.var 0) (.op .sub (.lit 0) (.var 1)))) .nil)))]):=by kernel_rfl
theorem aW1:zH Try.prog aZC = .ok (.agg [(.int .i64 (.app 0 (.cons (.op .mul (.var 0) (.var 1)) .nil))),(.int .u64 (.app 1 (.cons (.op .mul (.var 0) (.var 1)) .nil)))]):=by kernel_rfl
open Go Go.RowKit Sx Nu Wi
set_option maxHeartbeats 4000000 in
set_option maxRecDepth 100000 in
theorem aOB (x0 x1:Int) (b0:zzi x0) (b1:zzi x1) (w:World) (hw:pR GB w):dM Try.prog 115∧Calls Try.prog 115 #[.int .i64 x0,.int .i64 x1] w (fun e w'=>e = .returned (.agg #[.int .i64 (hi (x0*x1)),.int .u64 (lo (x0*x1))])∧Below w.heap.size w w'):=by
 refine dK (dC (ρ:=bT [x0,x1]) (run:=zH Try.prog) (fun _=>rfl) fits (bL ⟨b0,b1,trivial⟩) dY (fun X hX hG=>vA hX hG) rfl rfl bV ?_ w hw)
 refine aG (.cmp .lt (.var 0) (.lit 0)) (fun h0=>?_) (fun h0=>?_)
 ·skip
  refine aG (.cmp .lt (.var 1) (.lit 0)) (fun h1=>?_) (fun h1=>?_)
  ·skip
   refine aE aXw ?_
   refine⟨rfl,?_⟩;have e:((0-x0)*(0-x1))=x0*x1:=(by grind);show Value.agg #[Value.int .i64 (hi ((0-x0)*(0-x1))),Value.int .u64 (lo ((0-x0)*(0-x1)))]=_;rw[e]
  refine aE aWk ?_
  refine⟨rfl,?_⟩;have e:(0-((0-x0)*x1))=x0*x1:=(by grind);show Value.agg #[Value.int .i64 (hi (0-((0-x0)*x1))),Value.int .u64 (lo (0-((0-x0)*x1)))]=_;rw[e]
 refine aG (.cmp .lt (.var 1) (.lit 0)) (fun h1=>?_) (fun h1=>?_)
 ·skip
  refine aE aWG ?_
  refine⟨rfl,?_⟩;have e:(0-(x0*(0-x1)))=x0*x1:=(by grind);show Value.agg #[Value.int .i64 (hi (0-(x0*(0-x1)))),Value.int .u64 (lo (0-(x0*(0-x1))))]=_;rw[e]
 refine aE aW1 ?_
 refine⟨rfl,?_⟩;have e:(x0*x1)=x0*x1:=(by grind);show Value.agg #[Value.int .i64 (hi (x0*x1)),Value.int .u64 (lo (x0*x1))]=_;rw[e]
def oZ:eU:=fun X args=>
 match args with
 |[.int .i64 a,.int .i64 n]=>if a.fits X .i64 && n.fits X .i64 then .ok (W2 (.op .mul a n)) else .fail 237
 |_ => .fail 201
set_option maxRecDepth 100000 in
theorem aZk {X:Ctx} {ρ:Nat→Int} (hX:X.Ok ρ) (hG:X.G=G):dD Try.prog X ρ GB 115 oZ:=by
 obtain⟨XG,XI,XV,XF⟩:=X
 simp only at hG
 subst hG
 intro args s h α w vals hv hw
 unfold oZ at h
 split at h
 ·split at h
  ·rename_i hg
   simp only[Bool.and_eq_true]at hg
   cases h
   exact bC hv rfl rfl (aOB _ _ (E.fits_in hX hg.1) (E.fits_in hX hg.2) w hw)
  ·cases h
 ·cases h
def aLJ:aZ:=dR 115 oZ aAH
theorem aJp {X:Ctx} {ρ:Nat→Int} (hX:X.Ok ρ) (hG:X.G=G):eO Try.prog X ρ GB aLJ:=cD (aZk hX hG) (vA hX hG)
end Go.Proofs.Ytkpdiehbaiepaaa
