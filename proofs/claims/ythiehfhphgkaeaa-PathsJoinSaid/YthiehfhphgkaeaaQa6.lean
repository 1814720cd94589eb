/- What is proved: a aNz of a move and lines: what it returns,by its runs. No condition but the numbers' own bounds. -/
import Derived.Test.YthiehfhphgkaeaaQa5
import Derived.Test.YthiehfhphgkaeaaQg6
import Derived.Test.YthiehfhphgkaeaaQg4
import Derived.Test.YthiehfhphgkaeaaQa1
import Derived.Test.YthiehfhphgkaeaaQa2
import Derived.Test.YthiehfhphgkaeaaProg
set_option linter.unusedSimpArgs false
set_option linter.unusedVariables false
namespace Go.Proofs.Ythiehfhphgkaeaa
open Go Go.RowKit Sx Wi
def sC:List (Int × Int):=[(-2147483648,2147483647),(-2147483648,2147483647),(-2147483648,2147483647),(-2147483648,2147483647),(-2147483648,2147483647),(-2147483648,2147483647)]
def wW:FunS:=⟨[(.slice 0 0 1 1)],cD GB++[some ([(.int .u8 (.lit 0)),(.int .i32 (.var 0)),(.int .i32 (.var 1)),(.int .i32 (.var 2)),(.int .i32 (.var 3)),(.int .i32 (.var 4)),(.int .i32 (.var 5))],38)],.lit true,(.vsl 1 2 (.lit 0) (.lit 1) (some (.lit 1))),cD GB++[some ([(.int .u8 (.lit 0)),(.int .i32 (.var 0)),(.int .i32 (.var 1)),(.int .i32 (.var 2)),(.int .i32 (.var 3)),(.int .i32 (.var 4)),(.int .i32 (.var 5))],38),kM [.int .i64,.int .i64] (.app 91 (.cons (.lit 0) (.cons (.app 2 (.cons (.var 0) (.cons (.op .mul (.lit 1) (.lit 256)) .nil))) (.cons (.app 2 (.cons (.var 1) (.cons (.op .mul (.lit 1) (.lit 256)) .nil))) .nil)))) (.lit 1) 32],(.vsl 1 2 (.lit 0) (.lit 1) (some (.lit 1))),cD GB++[some ([(.int .u8 (.lit 0)),(.int .i32 (.var 0)),(.int .i32 (.var 1)),(.int .i32 (.var 2)),(.int .i32 (.var 3)),(.int .i32 (.var 4)),(.int .i32 (.var 5))],38),kM [.int .i64,.int .i64] (.app 91 (.cons (.lit 0) (.cons (.app 2 (.cons (.var 0) (.cons (.op .mul (.lit 1) (.lit 256)) .nil))) (.cons (.app 2 (.cons (.var 1) (.cons (.op .mul (.lit 1) (.lit 256)) .nil))) .nil)))) (.lit 1) 32]⟩
def wS (P:Program) (fs:List B):Res SV:=bW G GI sC fs fun X=>fB P X GB cU dK 400 16 wW
def rG:List (Int × Int):=[(-2147483648,2147483647),(-2147483648,2147483647),(-2147483648,2147483647),(-2147483648,2147483647),(-2147483648,2147483647),(-2147483648,2147483647),(-2147483648,2147483647),(-2147483648,2147483647),(-2147483648,2147483647),(-2147483648,2147483647),(-2147483648,2147483647),(-2147483648,2147483647)]
def wU:FunS:=⟨[(.slice 0 0 2 2)],cD GB++[some ([(.int .u8 (.lit 0)),(.int .i32 (.var 0)),(.int .i32 (.var 1)),(.int .i32 (.var 2)),(.int .i32 (.var 3)),(.int .i32 (.var 4)),(.int .i32 (.var 5)),(.int .u8 (.lit 1)),(.int .i32 (.var 6)),(.int .i32 (.var 7)),(.int .i32 (.var 8)),(.int .i32 (.var 9)),(.int .i32 (.var 10)),(.int .i32 (.var 11))],38)],.lit true,(.vsl 1 2 (.lit 0) (.lit 2) (some (.lit 2))),cD GB++[some ([(.int .u8 (.lit 0)),(.int .i32 (.var 0)),(.int .i32 (.var 1)),(.int .i32 (.var 2)),(.int .i32 (.var 3)),(.int .i32 (.var 4)),(.int .i32 (.var 5)),(.int .u8 (.lit 1)),(.int .i32 (.var 6)),(.int .i32 (.var 7)),(.int .i32 (.var 8)),(.int .i32 (.var 9)),(.int .i32 (.var 10)),(.int .i32 (.var 11))],38),kM [.int .i64,.int .i64] (.app 91 (.cons (.app 91 (.cons (.lit 0) (.cons (.app 2 (.cons (.var 0) (.cons (.op .mul (.lit 1) (.lit 256)) .nil))) (.cons (.app 2 (.cons (.var 1) (.cons (.op .mul (.lit 1) (.lit 256)) .nil))) .nil)))) (.cons (.app 2 (.cons (.var 6) (.cons (.op .mul (.lit 1) (.lit 256)) .nil))) (.cons (.app 2 (.cons (.var 7) (.cons (.op .mul (.lit 1) (.lit 256)) .nil))) .nil)))) (.lit 2) 32],(.vsl 1 2 (.lit 0) (.lit 2) (some (.lit 2))),cD GB++[some ([(.int .u8 (.lit 0)),(.int .i32 (.var 0)),(.int .i32 (.var 1)),(.int .i32 (.var 2)),(.int .i32 (.var 3)),(.int .i32 (.var 4)),(.int .i32 (.var 5)),(.int .u8 (.lit 1)),(.int .i32 (.var 6)),(.int .i32 (.var 7)),(.int .i32 (.var 8)),(.int .i32 (.var 9)),(.int .i32 (.var 10)),(.int .i32 (.var 11))],38),kM [.int .i64,.int .i64] (.app 91 (.cons (.app 91 (.cons (.lit 0) (.cons (.app 2 (.cons (.var 0) (.cons (.op .mul (.lit 1) (.lit 256)) .nil))) (.cons (.app 2 (.cons (.var 1) (.cons (.op .mul (.lit 1) (.lit 256)) .nil))) .nil)))) (.cons (.app 2 (.cons (.var 6) (.cons (.op .mul (.lit 1) (.lit 256)) .nil))) (.cons (.app 2 (.cons (.var 7) (.cons (.op .mul (.lit 1) (.lit 256)) .nil))) .nil)))) (.lit 2) 32]⟩
def uI (P:Program) (fs:List B):Res SV:=bW G GI rG fs fun X=>fB P X GB cU dK 400 16 wU
def sA:List (Int × Int):=[(-2147483648,2147483647),(-2147483648,2147483647),(-2147483648,2147483647),(-2147483648,2147483647),(-2147483648,2147483647),(-2147483648,2147483647),(-2147483648,2147483647),(-2147483648,2147483647),(-2147483648,2147483647),(-2147483648,2147483647),(-2147483648,2147483647),(-2147483648,2147483647),(-2147483648,2147483647),(-2147483648,2147483647),(-2147483648,2147483647),(-2147483648,2147483647),(-2147483648,2147483647),(-2147483648,2147483647)]
def wE:FunS:=⟨[(.slice 0 0 3 3)],cD GB++[some ([(.int .u8 (.lit 0)),(.int .i32 (.var 0)),(.int .i32 (.var 1)),(.int .i32 (.var 2)),(.int .i32 (.var 3)),(.int .i32 (.var 4)),(.int .i32 (.var 5)),(.int .u8 (.lit 1)),(.int .i32 (.var 6)),(.int .i32 (.var 7)),(.int .i32 (.var 8)),(.int .i32 (.var 9)),(.int .i32 (.var 10)),(.int .i32 (.var 11)),(.int .u8 (.lit 1)),(.int .i32 (.var 12)),(.int .i32 (.var 13)),(.int .i32 (.var 14)),(.int .i32 (.var 15)),(.int .i32 (.var 16)),(.int .i32 (.var 17))],38)],.lit true,(.vsl 1 2 (.lit 0) (.lit 3) (some (.lit 3))),cD GB++[some ([(.int .u8 (.lit 0)),(.int .i32 (.var 0)),(.int .i32 (.var 1)),(.int .i32 (.var 2)),(.int .i32 (.var 3)),(.int .i32 (.var 4)),(.int .i32 (.var 5)),(.int .u8 (.lit 1)),(.int .i32 (.var 6)),(.int .i32 (.var 7)),(.int .i32 (.var 8)),(.int .i32 (.var 9)),(.int .i32 (.var 10)),(.int .i32 (.var 11)),(.int .u8 (.lit 1)),(.int .i32 (.var 12)),(.int .i32 (.var 13)),(.int .i32 (.var 14)),(.int .i32 (.var 15)),(.int .i32 (.var 16)),(.int .i32 (.var 17))],38),kM [.int .i64,.int .i64] (.app 91 (.cons (.app 91 (.cons (.app 91 (.cons (.lit 0) (.cons (.app 2 (.cons (.var 0) (.cons (.op .mul (.lit 1) (.lit 256)) .nil))) (.cons (.app 2 (.cons (.var 1) (.cons (.op .mul (.lit 1) (.lit 256)) .nil))) .nil)))) (.cons (.app 2 (.cons (.var 6) (.cons (.op .mul (.lit 1) (.lit 256)) .nil))) (.cons (.app 2 (.cons (.var 7) (.cons (.op .mul (.lit 1) (.lit 256)) .nil))) .nil)))) (.cons (.app 2 (.cons (.var 12) (.cons (.op .mul (.lit 1) (.lit 256)) .nil))) (.cons (.app 2 (.cons (.var 13) (.cons (.op .mul (.lit 1) (.lit 256)) .nil))) .nil)))) (.lit 3) 32],(.vsl 1 2 (.lit 0) (.lit 3) (some (.lit 3))),cD GB++[some ([(.int .u8 (.lit 0)),(.int .i32 (.var 0)),(.int .i32 (.var 1)),(.int .i32 (.var 2)),(.int .i32 (.var 3)),(.int .i32 (.var 4)),(.int .i32 (.var 5)),(.int .u8 (.lit 1)),(.int .i32 (.var 6)),(.int .i32 (.var 7)),(.int .i32 (.var 8)),(.int .i32 (.var 9)),(.int .i32 (.var 10)),(.int .i32 (.var 11)),(.int .u8 (.lit 1)),(.int .i32 (.var 12)),(.int .i32 (.var 13)),(.int .i32 (.var 14)),(.int .i32 (.var 15)),(.int .i32 (.var 16)),(.int .i32 (.var 17))],38),kM [.int .i64,.int .i64] (.app 91 (.cons (.app 91 (.cons (.app 91 (.cons (.lit 0) (.cons (.app 2 (.cons (.var 0) (.cons (.op .mul (.lit 1) (.lit 256)) .nil))) (.cons (.app 2 (.cons (.var 1) (.cons (.op .mul (.lit 1) (.lit 256)) .nil))) .nil)))) (.cons (.app 2 (.cons (.var 6) (.cons (.op .mul (.lit 1) (.lit 256)) .nil))) (.cons (.app 2 (.cons (.var 7) (.cons (.op .mul (.lit 1) (.lit 256)) .nil))) .nil)))) (.cons (.app 2 (.cons (.var 12) (.cons (.op .mul (.lit 1) (.lit 256)) .nil))) (.cons (.app 2 (.cons (.var 13) (.cons (.op .mul (.lit 1) (.lit 256)) .nil))) .nil)))) (.lit 3) 32]⟩
def tY (P:Program) (fs:List B):Res SV:=bW G GI sA fs fun X=>fB P X GB cU dK 400 16 wE
def qU:List (Int × Int):=[(-2147483648,2147483647),(-2147483648,2147483647),(-2147483648,2147483647),(-2147483648,2147483647),(-2147483648,2147483647),(-2147483648,2147483647),(-2147483648,2147483647),(-2147483648,2147483647),(-2147483648,2147483647),(-2147483648,2147483647),(-2147483648,2147483647),(-2147483648,2147483647),(-2147483648,2147483647),(-2147483648,2147483647),(-2147483648,2147483647),(-2147483648,2147483647),(-2147483648,2147483647),(-2147483648,2147483647),(-2147483648,2147483647),(-2147483648,2147483647),(-2147483648,2147483647),(-2147483648,2147483647),(-2147483648,2147483647),(-2147483648,2147483647)]
def uQ:FunS:=⟨[(.slice 0 0 3 4)],cD GB++[some ([(.int .u8 (.lit 0)),(.int .i32 (.var 0)),(.int .i32 (.var 1)),(.int .i32 (.var 2)),(.int .i32 (.var 3)),(.int .i32 (.var 4)),(.int .i32 (.var 5)),(.int .u8 (.lit 1)),(.int .i32 (.var 6)),(.int .i32 (.var 7)),(.int .i32 (.var 8)),(.int .i32 (.var 9)),(.int .i32 (.var 10)),(.int .i32 (.var 11)),(.int .u8 (.lit 1)),(.int .i32 (.var 12)),(.int .i32 (.var 13)),(.int .i32 (.var 14)),(.int .i32 (.var 15)),(.int .i32 (.var 16)),(.int .i32 (.var 17)),(.int .u8 (.lit 3)),(.int .i32 (.var 18)),(.int .i32 (.var 19)),(.int .i32 (.var 20)),(.int .i32 (.var 21)),(.int .i32 (.var 22)),(.int .i32 (.var 23))],38)],.lit true,(.vsl 1 2 (.lit 0) (.lit 3) (some (.lit 3))),cD GB++[some ([(.int .u8 (.lit 0)),(.int .i32 (.var 0)),(.int .i32 (.var 1)),(.int .i32 (.var 2)),(.int .i32 (.var 3)),(.int .i32 (.var 4)),(.int .i32 (.var 5)),(.int .u8 (.lit 1)),(.int .i32 (.var 6)),(.int .i32 (.var 7)),(.int .i32 (.var 8)),(.int .i32 (.var 9)),(.int .i32 (.var 10)),(.int .i32 (.var 11)),(.int .u8 (.lit 1)),(.int .i32 (.var 12)),(.int .i32 (.var 13)),(.int .i32 (.var 14)),(.int .i32 (.var 15)),(.int .i32 (.var 16)),(.int .i32 (.var 17)),(.int .u8 (.lit 3)),(.int .i32 (.var 18)),(.int .i32 (.var 19)),(.int .i32 (.var 20)),(.int .i32 (.var 21)),(.int .i32 (.var 22)),(.int .i32 (.var 23))],38),kM [.int .i64,.int .i64] (.app 91 (.cons (.app 91 (.cons (.app 91 (.cons (.lit 0) (.cons (.app 2 (.cons (.var 0) (.cons (.op .mul (.lit 1) (.lit 256)) .nil))) (.cons (.app 2 (.cons (.var 1) (.cons (.op .mul (.lit 1) (.lit 256)) .nil))) .nil)))) (.cons (.app 2 (.cons (.var 6) (.cons (.op .mul (.lit 1) (.lit 256)) .nil))) (.cons (.app 2 (.cons (.var 7) (.cons (.op .mul (.lit 1) (.lit 256)) .nil))) .nil)))) (.cons (.app 2 (.cons (.var 12) (.cons (.op .mul (.lit 1) (.lit 256)) .nil))) (.cons (.app 2 (.cons (.var 13) (.cons (.op .mul (.lit 1) (.lit 256)) .nil))) .nil)))) (.lit 3) 32],(.vsl 1 2 (.lit 0) (.lit 3) (some (.lit 3))),cD GB++[some ([(.int .u8 (.lit 0)),(.int .i32 (.var 0)),(.int .i32 (.var 1)),(.int .i32 (.var 2)),(.int .i32 (.var 3)),(.int .i32 (.var 4)),(.int .i32 (.var 5)),(.int .u8 (.lit 1)),(.int .i32 (.var 6)),(.int .i32 (.var 7)),(.int .i32 (.var 8)),(.int .i32 (.var 9)),(.int .i32 (.var 10)),(.int .i32 (.var 11)),(.int .u8 (.lit 1)),(.int .i32 (.var 12)),(.int .i32 (.var 13)),(.int .i32 (.var 14)),(.int .i32 (.var 15)),(.int .i32 (.var 16)),(.int .i32 (.var 17)),(.int .u8 (.lit 3)),(.int .i32 (.var 18)),(.int .i32 (.var 19)),(.int .i32 (.var 20)),(.int .i32 (.var 21)),(.int .i32 (.var 22)),(.int .i32 (.var 23))],38),kM [.int .i64,.int .i64] (.app 91 (.cons (.app 91 (.cons (.app 91 (.cons (.lit 0) (.cons (.app 2 (.cons (.var 0) (.cons (.op .mul (.lit 1) (.lit 256)) .nil))) (.cons (.app 2 (.cons (.var 1) (.cons (.op .mul (.lit 1) (.lit 256)) .nil))) .nil)))) (.cons (.app 2 (.cons (.var 6) (.cons (.op .mul (.lit 1) (.lit 256)) .nil))) (.cons (.app 2 (.cons (.var 7) (.cons (.op .mul (.lit 1) (.lit 256)) .nil))) .nil)))) (.cons (.app 2 (.cons (.var 12) (.cons (.op .mul (.lit 1) (.lit 256)) .nil))) (.cons (.app 2 (.cons (.var 13) (.cons (.op .mul (.lit 1) (.lit 256)) .nil))) .nil)))) (.lit 3) 32]⟩
def vD (P:Program) (fs:List B):Res SV:=bW G GI qU fs fun X=>fB P X GB cU dK 400 16 uQ
def rD:List (Int × Int):=[(-2147483648,2147483647),(-2147483648,2147483647),(-2147483648,2147483647),(-2147483648,2147483647),(-2147483648,2147483647),(-2147483648,2147483647),(-2147483648,2147483647),(-2147483648,2147483647),(-2147483648,2147483647),(-2147483648,2147483647),(-2147483648,2147483647),(-2147483648,2147483647),(-2147483648,2147483647),(-2147483648,2147483647),(-2147483648,2147483647),(-2147483648,2147483647),(-2147483648,2147483647),(-2147483648,2147483647)]
def tZ:FunS:=⟨[(.slice 0 0 1 3)],cD GB++[some ([(.int .u8 (.lit 0)),(.int .i32 (.var 0)),(.int .i32 (.var 1)),(.int .i32 (.var 2)),(.int .i32 (.var 3)),(.int .i32 (.var 4)),(.int .i32 (.var 5)),(.int .u8 (.lit 3)),(.int .i32 (.var 6)),(.int .i32 (.var 7)),(.int .i32 (.var 8)),(.int .i32 (.var 9)),(.int .i32 (.var 10)),(.int .i32 (.var 11)),(.int .u8 (.lit 1)),(.int .i32 (.var 12)),(.int .i32 (.var 13)),(.int .i32 (.var 14)),(.int .i32 (.var 15)),(.int .i32 (.var 16)),(.int .i32 (.var 17))],38)],.lit true,(.vsl 1 2 (.lit 0) (.lit 1) (some (.lit 1))),cD GB++[some ([(.int .u8 (.lit 0)),(.int .i32 (.var 0)),(.int .i32 (.var 1)),(.int .i32 (.var 2)),(.int .i32 (.var 3)),(.int .i32 (.var 4)),(.int .i32 (.var 5)),(.int .u8 (.lit 3)),(.int .i32 (.var 6)),(.int .i32 (.var 7)),(.int .i32 (.var 8)),(.int .i32 (.var 9)),(.int .i32 (.var 10)),(.int .i32 (.var 11)),(.int .u8 (.lit 1)),(.int .i32 (.var 12)),(.int .i32 (.var 13)),(.int .i32 (.var 14)),(.int .i32 (.var 15)),(.int .i32 (.var 16)),(.int .i32 (.var 17))],38),kM [.int .i64,.int .i64] (.app 91 (.cons (.lit 0) (.cons (.app 2 (.cons (.var 0) (.cons (.op .mul (.lit 1) (.lit 256)) .nil))) (.cons (.app 2 (.cons (.var 1) (.cons (.op .mul (.lit 1) (.lit 256)) .nil))) .nil)))) (.lit 1) 32],(.vsl 1 2 (.lit 0) (.lit 1) (some (.lit 1))),cD GB++[some ([(.int .u8 (.lit 0)),(.int .i32 (.var 0)),(.int .i32 (.var 1)),(.int .i32 (.var 2)),(.int .i32 (.var 3)),(.int .i32 (.var 4)),(.int .i32 (.var 5)),(.int .u8 (.lit 3)),(.int .i32 (.var 6)),(.int .i32 (.var 7)),(.int .i32 (.var 8)),(.int .i32 (.var 9)),(.int .i32 (.var 10)),(.int .i32 (.var 11)),(.int .u8 (.lit 1)),(.int .i32 (.var 12)),(.int .i32 (.var 13)),(.int .i32 (.var 14)),(.int .i32 (.var 15)),(.int .i32 (.var 16)),(.int .i32 (.var 17))],38),kM [.int .i64,.int .i64] (.app 91 (.cons (.lit 0) (.cons (.app 2 (.cons (.var 0) (.cons (.op .mul (.lit 1) (.lit 256)) .nil))) (.cons (.app 2 (.cons (.var 1) (.cons (.op .mul (.lit 1) (.lit 256)) .nil))) .nil)))) (.lit 1) 32]⟩
def uP (P:Program) (fs:List B):Res SV:=bW G GI rD fs fun X=>fB P X GB cU dK 400 16 tZ
end Go.Proofs.Ythiehfhphgkaeaa
set_option maxRecDepth 100000
namespace Go.Proofs.Ythiehfhphgkaeaa
open Go Go.RowKit Sx Wi
def aIa (P:Program) (fs:List B):Res SV:=wS P fs
def aFy:List B:=[]
theorem aFF:aIa Try.prog aFy = .ok (.tuple [(.agg []),(.bool (.lit true))]):=by kernel_rfl
end Go.Proofs.Ythiehfhphgkaeaa
set_option maxRecDepth 100000
namespace Go.Proofs.Ythiehfhphgkaeaa
open Go Go.RowKit Sx Wi
def aHc (P:Program) (fs:List B):Res SV:=uI P fs
def aFu:List B:=[]
theorem aGN:aHc Try.prog aFu = .ok (.tuple [(.agg []),(.bool (.lit true))]):=by kernel_rfl
end Go.Proofs.Ythiehfhphgkaeaa
set_option maxRecDepth 100000
namespace Go.Proofs.Ythiehfhphgkaeaa
open Go Go.RowKit Sx Wi
def aJa (P:Program) (fs:List B):Res SV:=tY P fs
def aEW:List B:=[]
theorem aEv:aJa Try.prog aEW = .ok (.tuple [(.agg []),(.bool (.lit true))]):=by kernel_rfl
end Go.Proofs.Ythiehfhphgkaeaa
set_option maxRecDepth 100000
namespace Go.Proofs.Ythiehfhphgkaeaa
open Go Go.RowKit Sx Wi
def aJt (P:Program) (fs:List B):Res SV:=vD P fs
def aE3:List B:=[]
theorem aFH:aJt Try.prog aE3 = .ok (.tuple [(.agg []),(.bool (.lit true))]):=by kernel_rfl
end Go.Proofs.Ythiehfhphgkaeaa
set_option maxRecDepth 100000
namespace Go.Proofs.Ythiehfhphgkaeaa
open Go Go.RowKit Sx Wi
def aJJ (P:Program) (fs:List B):Res SV:=uP P fs
def aFi:List B:=[]
theorem aEE:aJJ Try.prog aFi = .ok (.tuple [(.agg []),(.bool (.lit true))]):=by kernel_rfl
end Go.Proofs.Ythiehfhphgkaeaa
namespace Go.Proofs.Ythiehfhphgkaeaa
open Go Go.RowKit Sx Wi
def uE (g h:Ctx→List SV→aG→Res (SV × aG)):Ctx→List SV→aG→Res (SV × aG):=fun X args σ=>
 match g X args σ with
 | .fail _=>h X args σ
 |r=>r
theorem mZ {P:Program} {X:Ctx} {ρ:Nat→Int} {gb:dG} {f:FuncId} {g h:Ctx→List SV→aG→Res (SV × aG)} (hg:eZ P X ρ gb f g) (hh:eZ P X ρ gb f h):eZ P X ρ gb f (uE g h):=by
 intro args σ s σ' e
 unfold uE at e
 split at e
 ·exact hh args σ s σ' e
 ·exact hg args σ s σ' e
set_option maxRecDepth 100000 in
theorem aCQ (x0 x1 x2 x3 x4 x5:Int) (b0 : -2147483648≤x0∧x0≤2147483647) (b1 : -2147483648≤x1∧x1≤2147483647) (b2 : -2147483648≤x2∧x2≤2147483647) (b3 : -2147483648≤x3∧x3≤2147483647) (b4 : -2147483648≤x4∧x4≤2147483647) (b5 : -2147483648≤x5∧x5≤2147483647):dW Try.prog G GB 16 wW (eT ([x0,x1,x2,x3,x4,x5]:List Int)):=by
 refine cP (lp:=dK) (run:=wS Try.prog) (fun _=>rfl) fits (dO ⟨b0,b1,b2,b3,b4,b5,trivial⟩) eK (fun X hX hG=>bN hX hG) (fun X hX hG fn c hf hc=>cO) rfl ?_
 refine aQ aFF ?_
 exact⟨rfl,trivial⟩
def aBp:Ctx→List SV→aG→Res (SV × aG):=dL GB sC 0 (.lit true) wW
theorem aF6 {X:Ctx} {ρ:Nat→Int} (hX:X.Ok ρ) (hG:X.G=G):eZ Try.prog X ρ GB 16 aBp:=by
 obtain⟨XG,XI,XV,XF⟩:=X
 simp only at hG
 subst hG
 refine cL hX ?_
 intro xs ls hw hl _
 have hl':ls=[]:=List.length_eq_zero_iff.1 hl
 subst hl'
 rw[List.append_nil]
 unfold sC at hw
 obtain⟨x0,y0,e0,b0,h0⟩:=aM hw
 obtain⟨x1,y1,e1,b1,h1⟩:=aM h0
 obtain⟨x2,y2,e2,b2,h2⟩:=aM h1
 obtain⟨x3,y3,e3,b3,h3⟩:=aM h2
 obtain⟨x4,y4,e4,b4,h4⟩:=aM h3
 obtain⟨x5,y5,e5,b5,h5⟩:=aM h4
 have e6:=oW h5
 subst e6 e5 e4 e3 e2 e1 e0
 exact aCQ x0 x1 x2 x3 x4 x5 b0 b1 b2 b3 b4 b5
set_option maxRecDepth 100000 in
theorem aCn (x0 x1 x2 x3 x4 x5 x6 x7 x8 x9 x10 x11:Int) (b0 : -2147483648≤x0∧x0≤2147483647) (b1 : -2147483648≤x1∧x1≤2147483647) (b2 : -2147483648≤x2∧x2≤2147483647) (b3 : -2147483648≤x3∧x3≤2147483647) (b4 : -2147483648≤x4∧x4≤2147483647) (b5 : -2147483648≤x5∧x5≤2147483647) (b6 : -2147483648≤x6∧x6≤2147483647) (b7 : -2147483648≤x7∧x7≤2147483647) (b8 : -2147483648≤x8∧x8≤2147483647) (b9 : -2147483648≤x9∧x9≤2147483647) (b10 : -2147483648≤x10∧x10≤2147483647) (b11 : -2147483648≤x11∧x11≤2147483647):dW Try.prog G GB 16 wU (eT ([x0,x1,x2,x3,x4,x5,x6,x7,x8,x9,x10,x11]:List Int)):=by
 refine cP (lp:=dK) (run:=uI Try.prog) (fun _=>rfl) fits (dO ⟨b0,b1,b2,b3,b4,b5,b6,b7,b8,b9,b10,b11,trivial⟩) eK (fun X hX hG=>bN hX hG) (fun X hX hG fn c hf hc=>cO) rfl ?_
 refine aQ aGN ?_
 exact⟨rfl,trivial⟩
def aB6:Ctx→List SV→aG→Res (SV × aG):=dL GB rG 0 (.lit true) wU
theorem aE2 {X:Ctx} {ρ:Nat→Int} (hX:X.Ok ρ) (hG:X.G=G):eZ Try.prog X ρ GB 16 aB6:=by
 obtain⟨XG,XI,XV,XF⟩:=X
 simp only at hG
 subst hG
 refine cL hX ?_
 intro xs ls hw hl _
 have hl':ls=[]:=List.length_eq_zero_iff.1 hl
 subst hl'
 rw[List.append_nil]
 unfold rG at hw
 obtain⟨x0,y0,e0,b0,h0⟩:=aM hw
 obtain⟨x1,y1,e1,b1,h1⟩:=aM h0
 obtain⟨x2,y2,e2,b2,h2⟩:=aM h1
 obtain⟨x3,y3,e3,b3,h3⟩:=aM h2
 obtain⟨x4,y4,e4,b4,h4⟩:=aM h3
 obtain⟨x5,y5,e5,b5,h5⟩:=aM h4
 obtain⟨x6,y6,e6,b6,h6⟩:=aM h5
 obtain⟨x7,y7,e7,b7,h7⟩:=aM h6
 obtain⟨x8,y8,e8,b8,h8⟩:=aM h7
 obtain⟨x9,y9,e9,b9,h9⟩:=aM h8
 obtain⟨x10,y10,e10,b10,h10⟩:=aM h9
 obtain⟨x11,y11,e11,b11,h11⟩:=aM h10
 have e12:=oW h11
 subst e12 e11 e10 e9 e8 e7 e6 e5 e4 e3 e2 e1 e0
 exact aCn x0 x1 x2 x3 x4 x5 x6 x7 x8 x9 x10 x11 b0 b1 b2 b3 b4 b5 b6 b7 b8 b9 b10 b11
set_option maxRecDepth 100000 in
theorem aCT (x0 x1 x2 x3 x4 x5 x6 x7 x8 x9 x10 x11 x12 x13 x14 x15 x16 x17:Int) (b0 : -2147483648≤x0∧x0≤2147483647) (b1 : -2147483648≤x1∧x1≤2147483647) (b2 : -2147483648≤x2∧x2≤2147483647) (b3 : -2147483648≤x3∧x3≤2147483647) (b4 : -2147483648≤x4∧x4≤2147483647) (b5 : -2147483648≤x5∧x5≤2147483647) (b6 : -2147483648≤x6∧x6≤2147483647) (b7 : -2147483648≤x7∧x7≤2147483647) (b8 : -2147483648≤x8∧x8≤2147483647) (b9 : -2147483648≤x9∧x9≤2147483647) (b10 : -2147483648≤x10∧x10≤2147483647) (b11 : -2147483648≤x11∧x11≤2147483647) (b12 : -2147483648≤x12∧x12≤2147483647) (b13 : -2147483648≤x13∧x13≤2147483647) (b14 : -2147483648≤x14∧x14≤2147483647) (b15 : -2147483648≤x15∧x15≤2147483647) (b16 : -2147483648≤x16∧x16≤2147483647) (b17 : -2147483648≤x17∧x17≤2147483647):dW Try.prog G GB 16 wE (eT ([x0,x1,x2,x3,x4,x5,x6,x7,x8,x9,x10,x11,x12,x13,x14,x15,x16,x17]:List Int)):=by
 refine cP (lp:=dK) (run:=tY Try.prog) (fun _=>rfl) fits (dO ⟨b0,b1,b2,b3,b4,b5,b6,b7,b8,b9,b10,b11,b12,b13,b14,b15,b16,b17,trivial⟩) eK (fun X hX hG=>bN hX hG) (fun X hX hG fn c hf hc=>cO) rfl ?_
 refine aQ aEv ?_
 exact⟨rfl,trivial⟩
def aA1:Ctx→List SV→aG→Res (SV × aG):=dL GB sA 0 (.lit true) wE
theorem aGS {X:Ctx} {ρ:Nat→Int} (hX:X.Ok ρ) (hG:X.G=G):eZ Try.prog X ρ GB 16 aA1:=by
 obtain⟨XG,XI,XV,XF⟩:=X
 simp only at hG
 subst hG
 refine cL hX ?_
 intro xs ls hw hl _
 have hl':ls=[]:=List.length_eq_zero_iff.1 hl
 subst hl'
 rw[List.append_nil]
 unfold sA at hw
 obtain⟨x0,y0,e0,b0,h0⟩:=aM hw
 obtain⟨x1,y1,e1,b1,h1⟩:=aM h0
 obtain⟨x2,y2,e2,b2,h2⟩:=aM h1
 obtain⟨x3,y3,e3,b3,h3⟩:=aM h2
 obtain⟨x4,y4,e4,b4,h4⟩:=aM h3
 obtain⟨x5,y5,e5,b5,h5⟩:=aM h4
 obtain⟨x6,y6,e6,b6,h6⟩:=aM h5
 obtain⟨x7,y7,e7,b7,h7⟩:=aM h6
 obtain⟨x8,y8,e8,b8,h8⟩:=aM h7
 obtain⟨x9,y9,e9,b9,h9⟩:=aM h8
 obtain⟨x10,y10,e10,b10,h10⟩:=aM h9
 obtain⟨x11,y11,e11,b11,h11⟩:=aM h10
 obtain⟨x12,y12,e12,b12,h12⟩:=aM h11
 obtain⟨x13,y13,e13,b13,h13⟩:=aM h12
 obtain⟨x14,y14,e14,b14,h14⟩:=aM h13
 obtain⟨x15,y15,e15,b15,h15⟩:=aM h14
 obtain⟨x16,y16,e16,b16,h16⟩:=aM h15
 obtain⟨x17,y17,e17,b17,h17⟩:=aM h16
 have e18:=oW h17
 subst e18 e17 e16 e15 e14 e13 e12 e11 e10 e9 e8 e7 e6 e5 e4 e3 e2 e1 e0
 exact aCT x0 x1 x2 x3 x4 x5 x6 x7 x8 x9 x10 x11 x12 x13 x14 x15 x16 x17 b0 b1 b2 b3 b4 b5 b6 b7 b8 b9 b10 b11 b12 b13 b14 b15 b16 b17
set_option maxRecDepth 100000 in
theorem aDm (x0 x1 x2 x3 x4 x5 x6 x7 x8 x9 x10 x11 x12 x13 x14 x15 x16 x17 x18 x19 x20 x21 x22 x23:Int) (b0 : -2147483648≤x0∧x0≤2147483647) (b1 : -2147483648≤x1∧x1≤2147483647) (b2 : -2147483648≤x2∧x2≤2147483647) (b3 : -2147483648≤x3∧x3≤2147483647) (b4 : -2147483648≤x4∧x4≤2147483647) (b5 : -2147483648≤x5∧x5≤2147483647) (b6 : -2147483648≤x6∧x6≤2147483647) (b7 : -2147483648≤x7∧x7≤2147483647) (b8 : -2147483648≤x8∧x8≤2147483647) (b9 : -2147483648≤x9∧x9≤2147483647) (b10 : -2147483648≤x10∧x10≤2147483647) (b11 : -2147483648≤x11∧x11≤2147483647) (b12 : -2147483648≤x12∧x12≤2147483647) (b13 : -2147483648≤x13∧x13≤2147483647) (b14 : -2147483648≤x14∧x14≤2147483647) (b15 : -2147483648≤x15∧x15≤2147483647) (b16 : -2147483648≤x16∧x16≤2147483647) (b17 : -2147483648≤x17∧x17≤2147483647) (b18 : -2147483648≤x18∧x18≤2147483647) (b19 : -2147483648≤x19∧x19≤2147483647) (b20 : -2147483648≤x20∧x20≤2147483647) (b21 : -2147483648≤x21∧x21≤2147483647) (b22 : -2147483648≤x22∧x22≤2147483647) (b23 : -2147483648≤x23∧x23≤2147483647):dW Try.prog G GB 16 uQ (eT ([x0,x1,x2,x3,x4,x5,x6,x7,x8,x9,x10,x11,x12,x13,x14,x15,x16,x17,x18,x19,x20,x21,x22,x23]:List Int)):=by
 refine cP (lp:=dK) (run:=vD Try.prog) (fun _=>rfl) fits (dO ⟨b0,b1,b2,b3,b4,b5,b6,b7,b8,b9,b10,b11,b12,b13,b14,b15,b16,b17,b18,b19,b20,b21,b22,b23,trivial⟩) eK (fun X hX hG=>bN hX hG) (fun X hX hG fn c hf hc=>cO) rfl ?_
 refine aQ aFH ?_
 exact⟨rfl,trivial⟩
def aBD:Ctx→List SV→aG→Res (SV × aG):=dL GB qU 0 (.lit true) uQ
theorem aG2 {X:Ctx} {ρ:Nat→Int} (hX:X.Ok ρ) (hG:X.G=G):eZ Try.prog X ρ GB 16 aBD:=by
 obtain⟨XG,XI,XV,XF⟩:=X
 simp only at hG
 subst hG
 refine cL hX ?_
 intro xs ls hw hl _
 have hl':ls=[]:=List.length_eq_zero_iff.1 hl
 subst hl'
 rw[List.append_nil]
 unfold qU at hw
 obtain⟨x0,y0,e0,b0,h0⟩:=aM hw
 obtain⟨x1,y1,e1,b1,h1⟩:=aM h0
 obtain⟨x2,y2,e2,b2,h2⟩:=aM h1
 obtain⟨x3,y3,e3,b3,h3⟩:=aM h2
 obtain⟨x4,y4,e4,b4,h4⟩:=aM h3
 obtain⟨x5,y5,e5,b5,h5⟩:=aM h4
 obtain⟨x6,y6,e6,b6,h6⟩:=aM h5
 obtain⟨x7,y7,e7,b7,h7⟩:=aM h6
 obtain⟨x8,y8,e8,b8,h8⟩:=aM h7
 obtain⟨x9,y9,e9,b9,h9⟩:=aM h8
 obtain⟨x10,y10,e10,b10,h10⟩:=aM h9
 obtain⟨x11,y11,e11,b11,h11⟩:=aM h10
 obtain⟨x12,y12,e12,b12,h12⟩:=aM h11
 obtain⟨x13,y13,e13,b13,h13⟩:=aM h12
 obtain⟨x14,y14,e14,b14,h14⟩:=aM h13
 obtain⟨x15,y15,e15,b15,h15⟩:=aM h14
 obtain⟨x16,y16,e16,b16,h16⟩:=aM h15
 obtain⟨x17,y17,e17,b17,h17⟩:=aM h16
 obtain⟨x18,y18,e18,b18,h18⟩:=aM h17
 obtain⟨x19,y19,e19,b19,h19⟩:=aM h18
 obtain⟨x20,y20,e20,b20,h20⟩:=aM h19
 obtain⟨x21,y21,e21,b21,h21⟩:=aM h20
 obtain⟨x22,y22,e22,b22,h22⟩:=aM h21
 obtain⟨x23,y23,e23,b23,h23⟩:=aM h22
 have e24:=oW h23
 subst e24 e23 e22 e21 e20 e19 e18 e17 e16 e15 e14 e13 e12 e11 e10 e9 e8 e7 e6 e5 e4 e3 e2 e1 e0
 exact aDm x0 x1 x2 x3 x4 x5 x6 x7 x8 x9 x10 x11 x12 x13 x14 x15 x16 x17 x18 x19 x20 x21 x22 x23 b0 b1 b2 b3 b4 b5 b6 b7 b8 b9 b10 b11 b12 b13 b14 b15 b16 b17 b18 b19 b20 b21 b22 b23
set_option maxRecDepth 100000 in
theorem aDp (x0 x1 x2 x3 x4 x5 x6 x7 x8 x9 x10 x11 x12 x13 x14 x15 x16 x17:Int) (b0 : -2147483648≤x0∧x0≤2147483647) (b1 : -2147483648≤x1∧x1≤2147483647) (b2 : -2147483648≤x2∧x2≤2147483647) (b3 : -2147483648≤x3∧x3≤2147483647) (b4 : -2147483648≤x4∧x4≤2147483647) (b5 : -2147483648≤x5∧x5≤2147483647) (b6 : -2147483648≤x6∧x6≤2147483647) (b7 : -2147483648≤x7∧x7≤2147483647) (b8 : -2147483648≤x8∧x8≤2147483647) (b9 : -2147483648≤x9∧x9≤2147483647) (b10 : -2147483648≤x10∧x10≤2147483647) (b11 : -2147483648≤x11∧x11≤2147483647) (b12 : -2147483648≤x12∧x12≤2147483647) (b13 : -2147483648≤x13∧x13≤2147483647) (b14 : -2147483648≤x14∧x14≤2147483647) (b15 : -2147483648≤x15∧x15≤2147483647) (b16 : -2147483648≤x16∧x16≤2147483647) (b17 : -2147483648≤x17∧x17≤2147483647):dW Try.prog G GB 16 tZ (eT ([x0,x1,x2,x3,x4,x5,x6,x7,x8,x9,x10,x11,x12,x13,x14,x15,x16,x17]:List Int)):=by
 refine cP (lp:=dK) (run:=uP Try.prog) (fun _=>rfl) fits (dO ⟨b0,b1,b2,b3,b4,b5,b6,b7,b8,b9,b10,b11,b12,b13,b14,b15,b16,b17,trivial⟩) eK (fun X hX hG=>bN hX hG) (fun X hX hG fn c hf hc=>cO) rfl ?_
 refine aQ aEE ?_
 exact⟨rfl,trivial⟩
def aA2:Ctx→List SV→aG→Res (SV × aG):=dL GB rD 0 (.lit true) tZ
theorem aFj {X:Ctx} {ρ:Nat→Int} (hX:X.Ok ρ) (hG:X.G=G):eZ Try.prog X ρ GB 16 aA2:=by
 obtain⟨XG,XI,XV,XF⟩:=X
 simp only at hG
 subst hG
 refine cL hX ?_
 intro xs ls hw hl _
 have hl':ls=[]:=List.length_eq_zero_iff.1 hl
 subst hl'
 rw[List.append_nil]
 unfold rD at hw
 obtain⟨x0,y0,e0,b0,h0⟩:=aM hw
 obtain⟨x1,y1,e1,b1,h1⟩:=aM h0
 obtain⟨x2,y2,e2,b2,h2⟩:=aM h1
 obtain⟨x3,y3,e3,b3,h3⟩:=aM h2
 obtain⟨x4,y4,e4,b4,h4⟩:=aM h3
 obtain⟨x5,y5,e5,b5,h5⟩:=aM h4
 obtain⟨x6,y6,e6,b6,h6⟩:=aM h5
 obtain⟨x7,y7,e7,b7,h7⟩:=aM h6
 obtain⟨x8,y8,e8,b8,h8⟩:=aM h7
 obtain⟨x9,y9,e9,b9,h9⟩:=aM h8
 obtain⟨x10,y10,e10,b10,h10⟩:=aM h9
 obtain⟨x11,y11,e11,b11,h11⟩:=aM h10
 obtain⟨x12,y12,e12,b12,h12⟩:=aM h11
 obtain⟨x13,y13,e13,b13,h13⟩:=aM h12
 obtain⟨x14,y14,e14,b14,h14⟩:=aM h13
 obtain⟨x15,y15,e15,b15,h15⟩:=aM h14
 obtain⟨x16,y16,e16,b16,h16⟩:=aM h15
 obtain⟨x17,y17,e17,b17,h17⟩:=aM h16
 have e18:=oW h17
 subst e18 e17 e16 e15 e14 e13 e12 e11 e10 e9 e8 e7 e6 e5 e4 e3 e2 e1 e0
 exact aDp x0 x1 x2 x3 x4 x5 x6 x7 x8 x9 x10 x11 x12 x13 x14 x15 x16 x17 b0 b1 b2 b3 b4 b5 b6 b7 b8 b9 b10 b11 b12 b13 b14 b15 b16 b17
def aBm:aZ:=gG 16 (uE uB (uE aBp (uE aB6 (uE aA1 (uE aBD aA2))))) cU
theorem aBu {X:Ctx} {ρ:Nat→Int} (hX:X.Ok ρ) (hG:X.G=G):gW Try.prog X ρ GB aBm:=eE (mZ (aKl hX hG) (mZ (aF6 hX hG) (mZ (aE2 hX hG) (mZ (aGS hX hG) (mZ (aG2 hX hG) (aFj hX hG)))))) (bN hX hG)
def zZ:FunS:=⟨[],cD GB,.lit true,(.bool (.lit true)),cD GB,(.bool (.lit true)),cD GB⟩
def yB (P:Program) (fs:List B):Res SV:=bW G GI [] fs fun X=>fB P X GB aBm dK 4000 11 zZ
end Go.Proofs.Ythiehfhphgkaeaa
set_option maxRecDepth 100000
namespace Go.Proofs.Ythiehfhphgkaeaa
open Go Go.RowKit Sx Wi
def aKy (P:Program) (fs:List B):Res SV:=yB P fs
def aJA:List B:=[]
def aHS:B:=(.cmp .ne (.app 83 (.cons (.app 91 (.cons (.app 91 (.cons (.app 91 (.cons (.lit 0) (.cons (.app 2 (.cons (.lit 0) (.cons (.lit 256) .nil))) (.cons (.app 2 (.cons (.lit 0) (.cons (.lit 256) .nil))) .nil)))) (.cons (.app 2 (.cons (.lit 65536) (.cons (.lit 256) .nil))) (.cons (.app 2 (.cons (.lit 0) (.cons (.lit 256) .nil))) .nil)))) (.cons (.app 2 (.cons (.lit 65536) (.cons (.lit 256) .nil))) (.cons (.app 2 (.cons (.lit 65536) (.cons (.lit 256) .nil))) .nil)))) (.cons (.lit 0) (.cons (.lit 0) .nil)))) (.lit 0))
def aIM:List B:=bA (B.neg aHS)++aJA
def aJF:B:=(.cmp .ne (.app 83 (.cons (.app 91 (.cons (.app 91 (.cons (.app 91 (.cons (.lit 0) (.cons (.app 2 (.cons (.lit 0) (.cons (.lit 256) .nil))) (.cons (.app 2 (.cons (.lit 0) (.cons (.lit 256) .nil))) .nil)))) (.cons (.app 2 (.cons (.lit 65536) (.cons (.lit 256) .nil))) (.cons (.app 2 (.cons (.lit 0) (.cons (.lit 256) .nil))) .nil)))) (.cons (.app 2 (.cons (.lit 65536) (.cons (.lit 256) .nil))) (.cons (.app 2 (.cons (.lit 65536) (.cons (.lit 256) .nil))) .nil)))) (.cons (.lit 0) (.cons (.lit 1) .nil)))) (.lit 0))
def aKg:List B:=bA (B.neg aJF)++aIM
def aIC:B:=(.cmp .ne (.app 83 (.cons (.app 91 (.cons (.app 91 (.cons (.app 91 (.cons (.lit 0) (.cons (.app 2 (.cons (.lit 0) (.cons (.lit 256) .nil))) (.cons (.app 2 (.cons (.lit 0) (.cons (.lit 256) .nil))) .nil)))) (.cons (.app 2 (.cons (.lit 65536) (.cons (.lit 256) .nil))) (.cons (.app 2 (.cons (.lit 0) (.cons (.lit 256) .nil))) .nil)))) (.cons (.app 2 (.cons (.lit 65536) (.cons (.lit 256) .nil))) (.cons (.app 2 (.cons (.lit 65536) (.cons (.lit 256) .nil))) .nil)))) (.cons (.lit 1) (.cons (.lit 0) .nil)))) (.lit 256))
def aJW:List B:=bA (B.neg aIC)++aKg
def aHd:B:=(.cmp .ne (.app 83 (.cons (.app 91 (.cons (.app 91 (.cons (.app 91 (.cons (.lit 0) (.cons (.app 2 (.cons (.lit 0) (.cons (.lit 256) .nil))) (.cons (.app 2 (.cons (.lit 0) (.cons (.lit 256) .nil))) .nil)))) (.cons (.app 2 (.cons (.lit 65536) (.cons (.lit 256) .nil))) (.cons (.app 2 (.cons (.lit 0) (.cons (.lit 256) .nil))) .nil)))) (.cons (.app 2 (.cons (.lit 65536) (.cons (.lit 256) .nil))) (.cons (.app 2 (.cons (.lit 65536) (.cons (.lit 256) .nil))) .nil)))) (.cons (.lit 1) (.cons (.lit 1) .nil)))) (.lit 0))
def aJQ:List B:=bA (B.neg aHd)++aJW
def aI8:B:=(.cmp .ne (.app 83 (.cons (.app 91 (.cons (.app 91 (.cons (.app 91 (.cons (.lit 0) (.cons (.app 2 (.cons (.lit 0) (.cons (.lit 256) .nil))) (.cons (.app 2 (.cons (.lit 0) (.cons (.lit 256) .nil))) .nil)))) (.cons (.app 2 (.cons (.lit 65536) (.cons (.lit 256) .nil))) (.cons (.app 2 (.cons (.lit 0) (.cons (.lit 256) .nil))) .nil)))) (.cons (.app 2 (.cons (.lit 65536) (.cons (.lit 256) .nil))) (.cons (.app 2 (.cons (.lit 65536) (.cons (.lit 256) .nil))) .nil)))) (.cons (.lit 2) (.cons (.lit 0) .nil)))) (.lit 256))
def aF1:List B:=bA (B.neg aI8)++aJQ
def aGn:B:=(.cmp .ne (.app 83 (.cons (.app 91 (.cons (.app 91 (.cons (.app 91 (.cons (.lit 0) (.cons (.app 2 (.cons (.lit 0) (.cons (.lit 256) .nil))) (.cons (.app 2 (.cons (.lit 0) (.cons (.lit 256) .nil))) .nil)))) (.cons (.app 2 (.cons (.lit 65536) (.cons (.lit 256) .nil))) (.cons (.app 2 (.cons (.lit 0) (.cons (.lit 256) .nil))) .nil)))) (.cons (.app 2 (.cons (.lit 65536) (.cons (.lit 256) .nil))) (.cons (.app 2 (.cons (.lit 65536) (.cons (.lit 256) .nil))) .nil)))) (.cons (.lit 2) (.cons (.lit 1) .nil)))) (.lit 256))
def aFz:List B:=bA (B.neg aGn)++aF1
def aGs:B:=(.cmp .ne (.app 83 (.cons (.app 44 (.cons (.lit 0) (.cons (.lit 0) (.cons (.lit 0) (.cons (.lit 65536) (.cons (.lit 65536) (.cons (.lit 65536) (.cons (.lit 65536) (.cons (.lit 0) .nil))))))))) (.cons (.lit 0) (.cons (.lit 0) .nil)))) (.lit 0))
def aGB:List B:=bA (B.neg aGs)++aFz
def aF4:B:=(.cmp .ne (.app 83 (.cons (.app 44 (.cons (.lit 0) (.cons (.lit 0) (.cons (.lit 0) (.cons (.lit 65536) (.cons (.lit 65536) (.cons (.lit 65536) (.cons (.lit 65536) (.cons (.lit 0) .nil))))))))) (.cons (.lit 0) (.cons (.lit 1) .nil)))) (.lit 0))
def aGo:List B:=bA (B.neg aF4)++aGB
def aGE:B:=(.cmp .ne (.app 83 (.cons (.app 44 (.cons (.lit 0) (.cons (.lit 0) (.cons (.lit 0) (.cons (.lit 65536) (.cons (.lit 65536) (.cons (.lit 65536) (.cons (.lit 65536) (.cons (.lit 0) .nil))))))))) (.cons (.lit 1) (.cons (.lit 0) .nil)))) (.lit 40))
def aFD:List B:=bA (B.neg aGE)++aGo
def aF3:B:=(.cmp .ne (.app 83 (.cons (.app 44 (.cons (.lit 0) (.cons (.lit 0) (.cons (.lit 0) (.cons (.lit 65536) (.cons (.lit 65536) (.cons (.lit 65536) (.cons (.lit 65536) (.cons (.lit 0) .nil))))))))) (.cons (.lit 1) (.cons (.lit 1) .nil)))) (.lit 144))
def aEL:List B:=bA (B.neg aF3)++aFD
def aFr:B:=(.cmp .ne (.app 83 (.cons (.app 44 (.cons (.lit 0) (.cons (.lit 0) (.cons (.lit 0) (.cons (.lit 65536) (.cons (.lit 65536) (.cons (.lit 65536) (.cons (.lit 65536) (.cons (.lit 0) .nil))))))))) (.cons (.lit 2) (.cons (.lit 0) .nil)))) (.lit 128))
def aEF:List B:=bA (B.neg aFr)++aEL
def aFS:B:=(.cmp .ne (.app 83 (.cons (.app 44 (.cons (.lit 0) (.cons (.lit 0) (.cons (.lit 0) (.cons (.lit 65536) (.cons (.lit 65536) (.cons (.lit 65536) (.cons (.lit 65536) (.cons (.lit 0) .nil))))))))) (.cons (.lit 2) (.cons (.lit 1) .nil)))) (.lit 192))
def aFt:List B:=bA (B.neg aFS)++aEF
def aEK:B:=(.cmp .ne (.app 83 (.cons (.app 44 (.cons (.lit 0) (.cons (.lit 0) (.cons (.lit 0) (.cons (.lit 65536) (.cons (.lit 65536) (.cons (.lit 65536) (.cons (.lit 65536) (.cons (.lit 0) .nil))))))))) (.cons (.lit 3) (.cons (.lit 0) .nil)))) (.lit 216))
def aE6:List B:=bA (B.neg aEK)++aFt
def aFb:B:=(.cmp .ne (.app 83 (.cons (.app 44 (.cons (.lit 0) (.cons (.lit 0) (.cons (.lit 0) (.cons (.lit 65536) (.cons (.lit 65536) (.cons (.lit 65536) (.cons (.lit 65536) (.cons (.lit 0) .nil))))))))) (.cons (.lit 3) (.cons (.lit 1) .nil)))) (.lit 144))
def aFE:List B:=bA (B.neg aFb)++aE6
def aGW:B:=(.cmp .ne (.app 83 (.cons (.app 44 (.cons (.lit 0) (.cons (.lit 0) (.cons (.lit 0) (.cons (.lit 65536) (.cons (.lit 65536) (.cons (.lit 65536) (.cons (.lit 65536) (.cons (.lit 0) .nil))))))))) (.cons (.lit 4) (.cons (.lit 0) .nil)))) (.lit 256))
def aGh:List B:=bA (B.neg aGW)++aFE
def aFc:B:=(.cmp .ne (.app 83 (.cons (.app 44 (.cons (.lit 0) (.cons (.lit 0) (.cons (.lit 0) (.cons (.lit 65536) (.cons (.lit 65536) (.cons (.lit 65536) (.cons (.lit 65536) (.cons (.lit 0) .nil))))))))) (.cons (.lit 4) (.cons (.lit 1) .nil)))) (.lit 0))
def aGR:List B:=bA (B.neg aFc)++aGh
theorem aGA:aKy Try.prog aGR = .ok (.tuple [(.agg []),(.bool (.lit true))]):=by kernel_rfl
end Go.Proofs.Ythiehfhphgkaeaa
namespace Go.Proofs.Ythiehfhphgkaeaa
open Go Go.RowKit Sx Wi
theorem aK4 (a m:Int) (hm:0<m) (n:Int) (hn:n=m*m*m*a):Fx.near n (m*(m*m)*256)=Fx.near a 256:=by
 have e:=Fx.near_mul a 256 (m*m*m) (Int.mul_pos (Int.mul_pos hm hm) hm)
 rw[←e,hn]
 congr 1<;>grind
theorem aJ1 (a b c d m:Int) (hm:0<m):aLN a b c d 0 m=Fx.near a 256:=aK4 a m hm _ (by grind)
theorem xJ (xs:List Int) (m:Int) (hm:0<m):∀ n a:Nat,a≤n→(gM xs m n).getD a []=qI xs m a
 |0,a,h=>by
  have:a=0:=by omega
  subst this
  show [Fx.near (xs.getD 0 0) (1*256),Fx.near (xs.getD 1 0) (1*256)]=qI xs m ((0:Nat):Int)
  unfold qI
  rw[Int.natCast_zero,aJ1 _ _ _ _ _ hm,aJ1 _ _ _ _ _ hm]
  rfl
 |n+1,a,h=>by
  have hl:=fD xs m n
  show (gM xs m n++[qI xs m ((n:Int)+1)]).getD a []=_
  rw[List.getD_eq_getElem?_getD]
  by_cases ha:a≤n
  ·rw[List.getElem?_append_left (by omega),←List.getD_eq_getElem?_getD]
   exact xJ xs m hm n a ha
  ·have:a=n+1:=by omega
   subst this
   rw[List.getElem?_append_right (by omega),hl]
   simp
theorem aDG (k:IntKind):Lc.kNo k<8:=by cases k<;>decide
theorem aMa (k:IntKind) {xs:List Int} {i j:Int} (h0:0≤i) (h1:i≤cW xs):G (80+Lc.kNo k) [G 44 xs,i,j]=k.wrap ((qI xs (cW xs) i).getD j.toNat 0):=by
 have hp:=fZ xs
 have e1:G 44 xs=Lc.enc (gM xs (cW xs) (cW xs).toNat):=rfl
 have h8:=aDG k
 rw[e1,iZ _ _ (by omega) (by omega),Lc.fn_rd]
 unfold Lc.rd Lc.row
 rw[Lc.dec_enc,xJ _ _ (by omega) _ _ (by omega),Int.toNat_of_nonneg h0]
theorem aL5 (k:IntKind) (L:List (List Int)) (i j:Int):G (80+Lc.kNo k) [Lc.enc L,i,j]=k.wrap ((L.getD i.toNat []).getD j.toNat 0):=by
 have h8:=aDG k
 rw[iZ _ _ (by omega) (by omega),Lc.fn_rd]
 unfold Lc.rd Lc.row
 rw[Lc.dec_enc]
theorem aM4 (a b:Int):G 91 [0,a,b]=Lc.enc [[a,b]]:=iT iZ [] [a,b]
theorem aNm (a b c d:Int):G 91 [G 91 [0,a,b],c,d]=Lc.enc [[a,b],[c,d]]:=by
 rw[aM4];exact iT iZ [[a,b]] [c,d]
theorem aNk (a b c d e f:Int):G 91 [G 91 [G 91 [0,a,b],c,d],e,f]=Lc.enc [[a,b],[c,d],[e,f]]:=by
 rw[aNm];exact iT iZ [[a,b],[c,d]] [e,f]
theorem nQ (i j v:Int) (h:IntKind.i64.wrap (([[G 2 [0,256],G 2 [0,256]],[G 2 [65536,256],G 2 [0,256]],[G 2 [65536,256],G 2 [65536,256]]].getD i.toNat []).getD j.toNat 0)=v):
  G 83 [G 91 [G 91 [G 91 [0,G 2 [0,256],G 2 [0,256]],G 2 [65536,256],G 2 [0,256]],G 2 [65536,256],G 2 [65536,256]],i,j]=v:=by
 rw[aNk];exact(aL5 .i64 _ i j).trans h
theorem gX (i j v:Int) (h0:0≤i) (h1:i≤cW [0,0,0,65536,65536,65536,65536,0]) (h:IntKind.i64.wrap ((qI [0,0,0,65536,65536,65536,65536,0] (cW [0,0,0,65536,65536,65536,65536,0]) i).getD j.toNat 0)=v):
  G 83 [G 44 [0,0,0,65536,65536,65536,65536,0],i,j]=v:=(aMa .i64 h0 h1).trans h
theorem aFh:dW Try.prog G GB 11 zZ (eT []):=by
 refine cP (lp:=dK) (run:=yB Try.prog) (fun _=>rfl) fits (dO trivial) eK (fun X hX hG=>aBu hX hG) (fun X hX hG fn c hf hc=>cO) rfl ?_
 refine aS (.cmp .ne (.app 83 (.cons (.app 91 (.cons (.app 91 (.cons (.app 91 (.cons (.lit 0) (.cons (.app 2 (.cons (.lit 0) (.cons (.lit 256) .nil))) (.cons (.app 2 (.cons (.lit 0) (.cons (.lit 256) .nil))) .nil)))) (.cons (.app 2 (.cons (.lit 65536) (.cons (.lit 256) .nil))) (.cons (.app 2 (.cons (.lit 0) (.cons (.lit 256) .nil))) .nil)))) (.cons (.app 2 (.cons (.lit 65536) (.cons (.lit 256) .nil))) (.cons (.app 2 (.cons (.lit 65536) (.cons (.lit 256) .nil))) .nil)))) (.cons (.lit 0) (.cons (.lit 0) .nil)))) (.lit 0)) (fun h0=>?_) (fun h0=>?_)
 ·skip
  refine bI ?_
  exfalso;simp only[nn,List.cons_append,List.nil_append,bF]at h0;with_reducible exact absurd (nQ 0 0 0 (by decide)) h0
 refine aS (.cmp .ne (.app 83 (.cons (.app 91 (.cons (.app 91 (.cons (.app 91 (.cons (.lit 0) (.cons (.app 2 (.cons (.lit 0) (.cons (.lit 256) .nil))) (.cons (.app 2 (.cons (.lit 0) (.cons (.lit 256) .nil))) .nil)))) (.cons (.app 2 (.cons (.lit 65536) (.cons (.lit 256) .nil))) (.cons (.app 2 (.cons (.lit 0) (.cons (.lit 256) .nil))) .nil)))) (.cons (.app 2 (.cons (.lit 65536) (.cons (.lit 256) .nil))) (.cons (.app 2 (.cons (.lit 65536) (.cons (.lit 256) .nil))) .nil)))) (.cons (.lit 0) (.cons (.lit 1) .nil)))) (.lit 0)) (fun h1=>?_) (fun h1=>?_)
 ·skip
  refine bI ?_
  exfalso;clear h0;simp only[nn,List.cons_append,List.nil_append,bF]at h1;with_reducible exact absurd (nQ 0 1 0 (by decide)) h1
 refine aS (.cmp .ne (.app 83 (.cons (.app 91 (.cons (.app 91 (.cons (.app 91 (.cons (.lit 0) (.cons (.app 2 (.cons (.lit 0) (.cons (.lit 256) .nil))) (.cons (.app 2 (.cons (.lit 0) (.cons (.lit 256) .nil))) .nil)))) (.cons (.app 2 (.cons (.lit 65536) (.cons (.lit 256) .nil))) (.cons (.app 2 (.cons (.lit 0) (.cons (.lit 256) .nil))) .nil)))) (.cons (.app 2 (.cons (.lit 65536) (.cons (.lit 256) .nil))) (.cons (.app 2 (.cons (.lit 65536) (.cons (.lit 256) .nil))) .nil)))) (.cons (.lit 1) (.cons (.lit 0) .nil)))) (.lit 256)) (fun h2=>?_) (fun h2=>?_)
 ·skip
  refine bI ?_
  exfalso;clear h0 h1;simp only[nn,List.cons_append,List.nil_append,bF]at h2;with_reducible exact absurd (nQ 1 0 256 (by decide)) h2
 refine aS (.cmp .ne (.app 83 (.cons (.app 91 (.cons (.app 91 (.cons (.app 91 (.cons (.lit 0) (.cons (.app 2 (.cons (.lit 0) (.cons (.lit 256) .nil))) (.cons (.app 2 (.cons (.lit 0) (.cons (.lit 256) .nil))) .nil)))) (.cons (.app 2 (.cons (.lit 65536) (.cons (.lit 256) .nil))) (.cons (.app 2 (.cons (.lit 0) (.cons (.lit 256) .nil))) .nil)))) (.cons (.app 2 (.cons (.lit 65536) (.cons (.lit 256) .nil))) (.cons (.app 2 (.cons (.lit 65536) (.cons (.lit 256) .nil))) .nil)))) (.cons (.lit 1) (.cons (.lit 1) .nil)))) (.lit 0)) (fun h3=>?_) (fun h3=>?_)
 ·skip
  refine bI ?_
  exfalso;clear h0 h1 h2;simp only[nn,List.cons_append,List.nil_append,bF]at h3;with_reducible exact absurd (nQ 1 1 0 (by decide)) h3
 refine aS (.cmp .ne (.app 83 (.cons (.app 91 (.cons (.app 91 (.cons (.app 91 (.cons (.lit 0) (.cons (.app 2 (.cons (.lit 0) (.cons (.lit 256) .nil))) (.cons (.app 2 (.cons (.lit 0) (.cons (.lit 256) .nil))) .nil)))) (.cons (.app 2 (.cons (.lit 65536) (.cons (.lit 256) .nil))) (.cons (.app 2 (.cons (.lit 0) (.cons (.lit 256) .nil))) .nil)))) (.cons (.app 2 (.cons (.lit 65536) (.cons (.lit 256) .nil))) (.cons (.app 2 (.cons (.lit 65536) (.cons (.lit 256) .nil))) .nil)))) (.cons (.lit 2) (.cons (.lit 0) .nil)))) (.lit 256)) (fun h4=>?_) (fun h4=>?_)
 ·skip
  refine bI ?_
  exfalso;clear h0 h1 h2 h3;simp only[nn,List.cons_append,List.nil_append,bF]at h4;with_reducible exact absurd (nQ 2 0 256 (by decide)) h4
 refine aS (.cmp .ne (.app 83 (.cons (.app 91 (.cons (.app 91 (.cons (.app 91 (.cons (.lit 0) (.cons (.app 2 (.cons (.lit 0) (.cons (.lit 256) .nil))) (.cons (.app 2 (.cons (.lit 0) (.cons (.lit 256) .nil))) .nil)))) (.cons (.app 2 (.cons (.lit 65536) (.cons (.lit 256) .nil))) (.cons (.app 2 (.cons (.lit 0) (.cons (.lit 256) .nil))) .nil)))) (.cons (.app 2 (.cons (.lit 65536) (.cons (.lit 256) .nil))) (.cons (.app 2 (.cons (.lit 65536) (.cons (.lit 256) .nil))) .nil)))) (.cons (.lit 2) (.cons (.lit 1) .nil)))) (.lit 256)) (fun h5=>?_) (fun h5=>?_)
 ·skip
  refine bI ?_
  exfalso;clear h0 h1 h2 h3 h4;simp only[nn,List.cons_append,List.nil_append,bF]at h5;with_reducible exact absurd (nQ 2 1 256 (by decide)) h5
 refine aS (.cmp .ne (.app 83 (.cons (.app 44 (.cons (.lit 0) (.cons (.lit 0) (.cons (.lit 0) (.cons (.lit 65536) (.cons (.lit 65536) (.cons (.lit 65536) (.cons (.lit 65536) (.cons (.lit 0) .nil))))))))) (.cons (.lit 0) (.cons (.lit 0) .nil)))) (.lit 0)) (fun h6=>?_) (fun h6=>?_)
 ·skip
  refine bI ?_
  exfalso;clear h0 h1 h2 h3 h4 h5;simp only[nn,List.cons_append,List.nil_append,bF]at h6;with_reducible exact absurd (gX 0 0 0 (by decide) (by decide) (by decide)) h6
 refine aS (.cmp .ne (.app 83 (.cons (.app 44 (.cons (.lit 0) (.cons (.lit 0) (.cons (.lit 0) (.cons (.lit 65536) (.cons (.lit 65536) (.cons (.lit 65536) (.cons (.lit 65536) (.cons (.lit 0) .nil))))))))) (.cons (.lit 0) (.cons (.lit 1) .nil)))) (.lit 0)) (fun h7=>?_) (fun h7=>?_)
 ·skip
  refine bI ?_
  exfalso;clear h0 h1 h2 h3 h4 h5 h6;simp only[nn,List.cons_append,List.nil_append,bF]at h7;with_reducible exact absurd (gX 0 1 0 (by decide) (by decide) (by decide)) h7
 refine aS (.cmp .ne (.app 83 (.cons (.app 44 (.cons (.lit 0) (.cons (.lit 0) (.cons (.lit 0) (.cons (.lit 65536) (.cons (.lit 65536) (.cons (.lit 65536) (.cons (.lit 65536) (.cons (.lit 0) .nil))))))))) (.cons (.lit 1) (.cons (.lit 0) .nil)))) (.lit 40)) (fun h8=>?_) (fun h8=>?_)
 ·skip
  refine bI ?_
  exfalso;clear h0 h1 h2 h3 h4 h5 h6 h7;simp only[nn,List.cons_append,List.nil_append,bF]at h8;with_reducible exact absurd (gX 1 0 40 (by decide) (by decide) (by decide)) h8
 refine aS (.cmp .ne (.app 83 (.cons (.app 44 (.cons (.lit 0) (.cons (.lit 0) (.cons (.lit 0) (.cons (.lit 65536) (.cons (.lit 65536) (.cons (.lit 65536) (.cons (.lit 65536) (.cons (.lit 0) .nil))))))))) (.cons (.lit 1) (.cons (.lit 1) .nil)))) (.lit 144)) (fun h9=>?_) (fun h9=>?_)
 ·skip
  refine bI ?_
  exfalso;clear h0 h1 h2 h3 h4 h5 h6 h7 h8;simp only[nn,List.cons_append,List.nil_append,bF]at h9;with_reducible exact absurd (gX 1 1 144 (by decide) (by decide) (by decide)) h9
 refine aS (.cmp .ne (.app 83 (.cons (.app 44 (.cons (.lit 0) (.cons (.lit 0) (.cons (.lit 0) (.cons (.lit 65536) (.cons (.lit 65536) (.cons (.lit 65536) (.cons (.lit 65536) (.cons (.lit 0) .nil))))))))) (.cons (.lit 2) (.cons (.lit 0) .nil)))) (.lit 128)) (fun h10=>?_) (fun h10=>?_)
 ·skip
  refine bI ?_
  exfalso;clear h0 h1 h2 h3 h4 h5 h6 h7 h8 h9;simp only[nn,List.cons_append,List.nil_append,bF]at h10;with_reducible exact absurd (gX 2 0 128 (by decide) (by decide) (by decide)) h10
 refine aS (.cmp .ne (.app 83 (.cons (.app 44 (.cons (.lit 0) (.cons (.lit 0) (.cons (.lit 0) (.cons (.lit 65536) (.cons (.lit 65536) (.cons (.lit 65536) (.cons (.lit 65536) (.cons (.lit 0) .nil))))))))) (.cons (.lit 2) (.cons (.lit 1) .nil)))) (.lit 192)) (fun h11=>?_) (fun h11=>?_)
 ·skip
  refine bI ?_
  exfalso;clear h0 h1 h2 h3 h4 h5 h6 h7 h8 h9 h10;simp only[nn,List.cons_append,List.nil_append,bF]at h11;with_reducible exact absurd (gX 2 1 192 (by decide) (by decide) (by decide)) h11
 refine aS (.cmp .ne (.app 83 (.cons (.app 44 (.cons (.lit 0) (.cons (.lit 0) (.cons (.lit 0) (.cons (.lit 65536) (.cons (.lit 65536) (.cons (.lit 65536) (.cons (.lit 65536) (.cons (.lit 0) .nil))))))))) (.cons (.lit 3) (.cons (.lit 0) .nil)))) (.lit 216)) (fun h12=>?_) (fun h12=>?_)
 ·skip
  refine bI ?_
  exfalso;clear h0 h1 h2 h3 h4 h5 h6 h7 h8 h9 h10 h11;simp only[nn,List.cons_append,List.nil_append,bF]at h12;with_reducible exact absurd (gX 3 0 216 (by decide) (by decide) (by decide)) h12
 refine aS (.cmp .ne (.app 83 (.cons (.app 44 (.cons (.lit 0) (.cons (.lit 0) (.cons (.lit 0) (.cons (.lit 65536) (.cons (.lit 65536) (.cons (.lit 65536) (.cons (.lit 65536) (.cons (.lit 0) .nil))))))))) (.cons (.lit 3) (.cons (.lit 1) .nil)))) (.lit 144)) (fun h13=>?_) (fun h13=>?_)
 ·skip
  refine bI ?_
  exfalso;clear h0 h1 h2 h3 h4 h5 h6 h7 h8 h9 h10 h11 h12;simp only[nn,List.cons_append,List.nil_append,bF]at h13;with_reducible exact absurd (gX 3 1 144 (by decide) (by decide) (by decide)) h13
 refine aS (.cmp .ne (.app 83 (.cons (.app 44 (.cons (.lit 0) (.cons (.lit 0) (.cons (.lit 0) (.cons (.lit 65536) (.cons (.lit 65536) (.cons (.lit 65536) (.cons (.lit 65536) (.cons (.lit 0) .nil))))))))) (.cons (.lit 4) (.cons (.lit 0) .nil)))) (.lit 256)) (fun h14=>?_) (fun h14=>?_)
 ·skip
  refine bI ?_
  exfalso;clear h0 h1 h2 h3 h4 h5 h6 h7 h8 h9 h10 h11 h12 h13;simp only[nn,List.cons_append,List.nil_append,bF]at h14;with_reducible exact absurd (gX 4 0 256 (by decide) (by decide) (by decide)) h14
 refine aS (.cmp .ne (.app 83 (.cons (.app 44 (.cons (.lit 0) (.cons (.lit 0) (.cons (.lit 0) (.cons (.lit 65536) (.cons (.lit 65536) (.cons (.lit 65536) (.cons (.lit 65536) (.cons (.lit 0) .nil))))))))) (.cons (.lit 4) (.cons (.lit 1) .nil)))) (.lit 0)) (fun h15=>?_) (fun h15=>?_)
 ·skip
  refine bI ?_
  exfalso;clear h0 h1 h2 h3 h4 h5 h6 h7 h8 h9 h10 h11 h12 h13 h14;simp only[nn,List.cons_append,List.nil_append,bF]at h15;with_reducible exact absurd (gX 4 1 0 (by decide) (by decide) (by decide)) h15
 refine aQ aGA ?_
 exact⟨rfl,trivial⟩
def sP:Ctx→List SV→aG→Res (SV × aG):=dL GB [] 0 (.lit true) zZ
theorem aHN {X:Ctx} {ρ:Nat→Int} (hX:X.Ok ρ) (hG:X.G=G):eZ Try.prog X ρ GB 11 sP:=by
 obtain⟨XG,XI,XV,XF⟩:=X
 simp only at hG
 subst hG
 refine cL hX ?_
 intro xs ls hw hl _
 have hl':ls=[]:=List.length_eq_zero_iff.1 hl
 subst hl'
 rw[List.append_nil]
 have e8:=oW hw
 subst e8
 exact aFh
def aD1:List (Int × Int):=[(0,4611686018427387904),(0,10000),(0,10000),(0,4611686018427387904)]
def aC8:List (Int × Int):=[(0,4611686018427387904),(0,10000),(0,10000)]
def aNH:St:=⟨[(.fro 0 [.int .i64,.int .i64] (.var 4) (.var 0)),(.fro 1 [.int .i64,.int .i64] (.var 4) (.var 0)),.any,.any,.any,(.int .i64 (.var 3)),.any,.any,.any,.any,.any,.any,.any,.any,.any,.any,.any,.any,.any,.any,.any,.any,.any,.any,.any,.any],[some ([.lol 0 [.int .i64,.int .i64] (.var 5) (.var 1)],aL+30),some ([.lol 1 [.int .i64,.int .i64] (.var 6) (.var 2)],aL+30)]⟩
def aNp:St:=⟨[.any,.any,.any,.any,.any,.any,.any,.any,.any,.any,.any,.any,.any,.any,.any,.any,.any,.any,.any,.any,.any,.any,.any,.any,.any,.any],[some ([.lol 0 [.int .i64,.int .i64] (.var 4) (.var 1)],aL+30),some ([.lol 1 [.int .i64,.int .i64] (.var 5) (.var 2)],aL+30)]⟩
def aNs:LoopS:=⟨3,2,aNH,.lit true,.exit 0,aNp,.exit 0,aNp⟩
def aMT:LoopU:=⟨aNs,[.var 0,.var 1,.var 2,.lit 0,.var 3,.var 4,.var 5],aD1,.lit true⟩
def wA (P:Program) (fs:List B):Res SV:=bW G GI aD1 fs fun X=>gZ P X GB cU dK 4000 (dJ (cH P 19) 0) aNs
def aLL:eJ:=iD 4 (fC (bO GB) [aMT]) dK
def aMb:FunS:=⟨[(.fro 0 [.int .i64,.int .i64] (.var 3) (.var 0)),(.fro 1 [.int .i64,.int .i64] (.var 3) (.var 0))],[some ([.lol 0 [.int .i64,.int .i64] (.var 4) (.var 1)],aL+30),some ([.lol 1 [.int .i64,.int .i64] (.var 5) (.var 2)],aL+30)],.lit true,.bool (.lit true),[some ([.lol 0 [.int .i64,.int .i64] (.var 4) (.var 1)],aL+30),some ([.lol 1 [.int .i64,.int .i64] (.var 5) (.var 2)],aL+30)],.bool (.lit true),[some ([.lol 0 [.int .i64,.int .i64] (.var 4) (.var 1)],aL+30),some ([.lol 1 [.int .i64,.int .i64] (.var 5) (.var 2)],aL+30)]⟩
def aHU (P:Program) (fs:List B):Res SV:=bW G GI aC8 fs fun X=>fB P X GB cU aLL 4000 19 aMb
end Go.Proofs.Ythiehfhphgkaeaa
set_option maxRecDepth 100000
namespace Go.Proofs.Ythiehfhphgkaeaa
open Go Go.RowKit Sx Wi
def aDx (P:Program) (fs:List B):Res SV:=wA P fs
def aBJ:List B:=[]
def mQ:B:=(.cmp .lt (.var 3) (.var 0))
def aJN:List B:=bA mQ++aBJ
def aIl:List B:=bA (B.neg mQ)++aBJ
theorem aIR:aDx Try.prog aJN = .ok (.agg [(.int .i64 (.var 4)),(.int .i64 (.var 4)),(.int .i64 (.var 4)),(.int .i64 (.var 4)),(.int .i64 (.op .add (.var 3) (.lit 1))),(.int .i64 (.var 3)),(.int .i64 (.var 5)),(.int .i64 (.var 5)),(.int .i64 (.var 6)),(.int .i64 (.var 6))]):=by kernel_rfl
theorem aHO:aDx Try.prog aIl = .ok (.tuple [(.agg [(.int .i64 (.var 5)),(.int .i64 (.var 4)),(.int .i64 (.var 6)),(.int .i64 (.var 5))]),(.bool (.lit true))]):=by kernel_rfl
end Go.Proofs.Ythiehfhphgkaeaa
set_option maxRecDepth 100000
namespace Go.Proofs.Ythiehfhphgkaeaa
open Go Go.RowKit Sx Wi
def aKU (P:Program) (fs:List B):Res SV:=aHU P fs
def aHV:List B:=[]
theorem aHl:aKU Try.prog aHV = .ok (.tuple [(.agg []),(.bool (.lit true))]):=by kernel_rfl
end Go.Proofs.Ythiehfhphgkaeaa
namespace Go.Proofs.Ythiehfhphgkaeaa
open Go Go.RowKit Sx Wi
def jU (n na nb kc ka kb:Int) (a:Nat):Nat→Int:=eT ([n,na,nb]++[(a:Int),kc,ka,kb])
theorem aLb (n na nb kc ka kb:Int) (b0:0≤n∧n≤4611686018427387904) (b1:0≤na∧na≤10000) (b2:0≤nb∧nb≤10000) (a:Nat) (ha:(a:Int)≤n):∀ i q,aD1[i]?=some q→q.1≤jU n na nb kc ka kb a i∧jU n na nb kc ka kb a i≤q.2:=by
 unfold jU aD1
 exact cQ (xs:=[n,na,nb,(a:Int)]) (ls:=[kc,ka,kb]) (by exact⟨b0,b1,b2,by omega,trivial⟩)
set_option maxHeartbeats 4000000 in
set_option maxRecDepth 100000 in
theorem aML (n na nb kc ka kb:Int) (a:Nat) (ha:(a:Int)≤n):Sx.Way (wA Try.prog) G (jU n na nb kc ka kb a) (bV G (jU n na nb kc ka kb) (eT ([n,na,nb]++[kc,ka,kb])) 3 (.lit true) (fun a=>(a:Int)≤n) (fun a=>n.toNat-a) a) []:=by
 refine aS mQ (fun h0=>?_) (fun h0=>?_)
 ·skip
  refine aQ aIR ?_
  unfold mQ at h0;simp only[nn,jU,List.cons_append,List.nil_append,Bool.or_eq_true,bF,ne_eq]at h0;have hm:n.toNat-(a+1)<n.toNat-a:=(by omega);have hg:((a+1:Nat):Int)≤n:=(by omega);clear h0;simp only[bV];refine⟨a+1,hg,hm,cJ (by simp),?_⟩;simp only[aR];clear hm hg;simp only[nn,Int.natCast_add,Int.cast_ofNat_Int,Int.natCast_one,jU,List.cons_append,List.nil_append,Bool.or_eq_true,bF,ne_eq];all_goals ((repeat' refine And.intro ?_ ?_)<;>first|with_reducible rfl|with_reducible trivial)
 refine aQ aHO ?_
 unfold mQ at h0;simp only[bV];refine⟨rfl,cJ (by simp),?_⟩;simp only[aR];simp only[nn,jU,List.cons_append,List.nil_append,Bool.or_eq_true,bF,ne_eq];all_goals ((repeat' refine And.intro ?_ ?_)<;>first|with_reducible rfl|with_reducible trivial)
theorem aIh:bB (cH Try.prog 19)=[dJ (cH Try.prog 19) 0]:=by kernel_rfl
set_option maxHeartbeats 1000000 in
set_option maxRecDepth 100000 in
theorem aMl (n na nb kc ka kb:Int) (b0:0≤n∧n≤4611686018427387904) (b1:0≤na∧na≤10000) (b2:0≤nb∧nb≤10000):dW Try.prog G GB 19 aMb (eT ([n,na,nb]++[kc,ka,kb])):=by
 refine cP (lp:=aLL) (run:=aHU Try.prog) (fun _=>rfl) fits (cQ (xs:=[n,na,nb]) (ls:=[kc,ka,kb]) (by exact⟨b0,b1,b2,trivial⟩)) eK (fun X hX hG=>bN hX hG) (fun X hX hG fn c hf hc=>?_) rfl ?_
 ·refine fT ((congrArg bB (gU hf hc)).symm.trans aIh) ?_
  intro b hb
  simp only[List.mem_cons,List.mem_nil_iff,or_false]at hb
  subst hb
  refine iB hX hG (by kernel_rfl) ?_
  intro p hp'
  simp only[List.mem_cons,List.mem_nil_iff,or_false]at hp'
  subst hp'
  intro _ _
  have e:fK G (eT ([n,na,nb]++[kc,ka,kb])) aMT.es=jU n na nb kc ka kb 0:=by
   rw[eM]
   rfl
  rw[e]
  exact⟨n.toNat+1,dT (ι:=Nat) (ρ:=jU n na nb kc ka kb) (ρT:=eT ([n,na,nb]++[kc,ka,kb])) (m:=fun a=>n.toNat-a) (Good:=fun a=>(a:Int)≤n) (run:=wA Try.prog) (fun _=>rfl) fits rfl eK (fun a ha=>aLb n na nb kc ka kb b0 b1 b2 a ha) (fun _ _ X hX hG=>bN hX hG) (fun _ _ X hX hG=>cO) (fun a ha=>aML n na nb kc ka kb a ha) (by decide) (n.toNat+1) 0 (by show ((0:Nat):Int)≤n;omega) (by show n.toNat-0<n.toNat+1;omega)⟩
 ·skip
  refine aQ aHl ?_
  exact⟨rfl,trivial⟩
def uX:Ctx→List SV→aG→Res (SV × aG):=dL GB aC8 3 (.lit true) aMb
theorem aLy {X:Ctx} {ρ:Nat→Int} (hX:X.Ok ρ) (hG:X.G=G):eZ Try.prog X ρ GB 19 uX:=by
 obtain⟨XG,XI,XV,XF⟩:=X
 simp only at hG
 subst hG
 refine cL hX ?_
 intro xs ls hw hl hp
 unfold aC8 at hw
 obtain⟨x0,y0,e0,b0,h0⟩:=eF hw
 obtain⟨x1,y1,e1,b1,h1⟩:=eF h0
 obtain⟨x2,y2,e2,b2,h2⟩:=eF h1
 have e3:=oS h2
 subst e3 e2 e1 e0
 obtain⟨l0,l1,l2,rfl⟩:∃ a b c,ls=[a,b,c]:=by
  rcases ls with _|⟨a,_|⟨b,_|⟨c,_|⟨d,r⟩⟩⟩⟩<;>simp at hl
  exact⟨a,b,c,rfl⟩
 exact aMl x0 x1 x2 l0 l1 l2 b0 b1 b2
def aJr:aZ:=gG 19 uX cU
theorem aBa {X:Ctx} {ρ:Nat→Int} (hX:X.Ok ρ) (hG:X.G=G):gW Try.prog X ρ GB aJr:=eE (aLy hX hG) (bN hX hG)
def aEo:List (Int × Int):=[(0,10000),(0,10000)]
def aC2:List (Int × Int):=[(0,10000)]
def aNx:St:=⟨[(.vsl 0 1 (.lit 0) (.var 0) (some (.var 0))),(.own 1 (.var 0) none),.any,.any,.any,(.int .i64 (.var 1)),.any,.any,.any,.any,.any,.any,.any,.any,.any,.any,.any,.any,.any,.any,.any,.any,.any,.any,.any,.any,.any],[some ([.lol 0 [.int .i64,.int .i64] (.var 2) (.var 0)],aL+30),some ([.lol 1 [.int .i64,.int .i64] (.var 2) (.var 0)],aL+30)]⟩
def aNd:St:=⟨[.any,.any,.any,.any,.any,.any,.any,.any,.any,.any,.any,.any,.any,.any,.any,.any,.any,.any,.any,.any,.any,.any,.any,.any,.any,.any,.any],[some ([.lol 0 [.int .i64,.int .i64] (.var 1) (.var 0)],aL+30),some ([.lol 1 [.int .i64,.int .i64] (.var 1) (.var 0)],aL+30)]⟩
def aNg:LoopS:=⟨1,2,aNx,.lit true,.exit 0,aNd,.exit 0,aNd⟩
def aM8:LoopU:=⟨aNg,[.var 0,.lit 0,.var 1],aEo,.lit true⟩
def vX (P:Program) (fs:List B):Res SV:=bW G GI aEo fs fun X=>gZ P X GB aJr dK 4000 (dJ (cH P 12) 0) aNg
def aLA:eJ:=iD 4 (fC (bO GB) [aM8]) dK
def aMh:FunS:=⟨[(.vsl 0 1 (.lit 0) (.var 0) (some (.var 0))),(.own 1 (.var 0) none)],[some ([.lol 0 [.int .i64,.int .i64] (.var 1) (.var 0)],aL+30),some ([.lol 1 [.int .i64,.int .i64] (.var 1) (.var 0)],aL+30)],.lit true,.bool (.lit true),[some ([.lol 0 [.int .i64,.int .i64] (.var 1) (.var 0)],aL+30),some ([.lol 1 [.int .i64,.int .i64] (.var 1) (.var 0)],aL+30)],.bool (.lit true),[some ([.lol 0 [.int .i64,.int .i64] (.var 1) (.var 0)],aL+30),some ([.lol 1 [.int .i64,.int .i64] (.var 1) (.var 0)],aL+30)]⟩
def aJS (P:Program) (fs:List B):Res SV:=bW G GI aC2 fs fun X=>fB P X GB aJr aLA 4000 12 aMh
end Go.Proofs.Ythiehfhphgkaeaa
set_option maxRecDepth 100000
namespace Go.Proofs.Ythiehfhphgkaeaa
open Go Go.RowKit Sx Wi
def aD8 (P:Program) (fs:List B):Res SV:=vX P fs
def aA7:List B:=[]
def mN:B:=(.cmp .lt (.var 1) (.var 0))
def aI4:List B:=bA mN++aA7
def aJe:List B:=bA (B.neg mN)++aA7
theorem aIt:aD8 Try.prog aI4 = .ok (.agg [(.int .i64 (.op .add (.var 1) (.lit 1))),(.int .i64 (.var 1)),(.int .i64 (.var 2)),(.int .i64 (.var 2)),(.int .i64 (.var 2)),(.int .i64 (.var 2))]):=by kernel_rfl
theorem aHr:aD8 Try.prog aJe = .ok (.tuple [(.agg [(.int .i64 (.var 2)),(.int .i64 (.var 1)),(.int .i64 (.var 2)),(.int .i64 (.var 1))]),(.bool (.lit true))]):=by kernel_rfl
end Go.Proofs.Ythiehfhphgkaeaa
set_option maxRecDepth 100000
namespace Go.Proofs.Ythiehfhphgkaeaa
open Go Go.RowKit Sx Wi
def aKD (P:Program) (fs:List B):Res SV:=aJS P fs
def aJl:List B:=[]
theorem aIE:aKD Try.prog aJl = .ok (.tuple [(.agg []),(.bool (.lit true))]):=by kernel_rfl
end Go.Proofs.Ythiehfhphgkaeaa
