/- What is proved: what the run of a function comes to,on some of its ways. No condition. -/
import Derived.Test.YtkpdiehbaiepaaaQa8
set_option linter.unusedSimpArgs false
set_option linter.unusedVariables false
set_option maxRecDepth 100000
namespace Go.Proofs.Ytkpdiehbaiepaaa
open Go Go.RowKit Sx Wi
theorem aJJ:aY Try.prog aJ4 = .ok (.agg ([(.bool (.cmp .eq (.var 2) (.lit 0)))]++aK (.op .quo (.op .sub (.var 3) (.op .add (.var 1) (.var 1))) zzb))):=by kernel_rfl
theorem aJz:aY Try.prog aIC = .ok (.agg ([(.bool (.cmp .eq (.var 0) (.lit 0)))]++aK (.op .add zzd (.lit 1)))):=by kernel_rfl
theorem aE7:aY Try.prog aDS = .ok (.agg ([(.bool (.cmp .eq (.var 0) (.lit 0)))]++aK (.op .add zzd (.lit 1)))):=by kernel_rfl
theorem aEB:aY Try.prog aDp = .ok (.agg ([(.bool (.cmp .eq (.var 0) (.lit 0)))]++aK (.op .add zzd (.lit 1)))):=by kernel_rfl
theorem aG6:aY Try.prog aFZ = .ok (.agg ([(.bool (.cmp .eq (.var 0) (.lit 0)))]++aK (.op .add zzd (.lit 1)))):=by kernel_rfl
theorem aET:aY Try.prog aIa = .ok (.agg ([(.bool (.cmp .eq (.var 0) (.lit 0)))]++aK (.op .add zzd (.lit 1)))):=by kernel_rfl
theorem aGG:aY Try.prog aEk = .ok (.agg ([(.bool (.cmp .eq (.var 0) (.lit 0)))]++aK (.op .add zzd (.lit 1)))):=by kernel_rfl
theorem aEG:aY Try.prog aDI = .ok (.agg ([(.bool (.cmp .eq (.var 0) (.lit 0)))]++aK (.op .add zzd (.lit 1)))):=by kernel_rfl
theorem aEf:aY Try.prog aEW = .ok (.agg ([(.bool (.cmp .eq (.var 0) (.lit 0)))]++aK (.op .add zzd (.lit 1)))):=by kernel_rfl
theorem aER:aY Try.prog aE1 = .ok (.agg ([(.bool (.cmp .eq (.var 0) (.lit 0)))]++aK (.op .add zzd (.lit 1)))):=by kernel_rfl
set_option maxRecDepth 100000
open Go Go.RowKit Sx Wi
theorem aD7:aY Try.prog aFQ = .ok (.agg ([(.bool (.cmp .eq (.var 0) (.lit 0)))]++aK (.op .add zzd (.lit 1)))):=by kernel_rfl
theorem aIn:aY Try.prog aGT = .ok (.agg ([(.bool (.cmp .eq (.var 0) (.lit 0)))]++aK (.op .add zzd (.lit 1)))):=by kernel_rfl
theorem aGD:aY Try.prog aD5 = .ok (.agg ([(.bool (.cmp .eq (.var 0) (.lit 0)))]++aK (.op .add zzd (.lit 1)))):=by kernel_rfl
theorem aFK:aY Try.prog aHe = .ok (.agg ([(.bool (.cmp .eq (.var 0) (.lit 0)))]++aK zzd)):=by kernel_rfl
theorem aH5:aY Try.prog aEc = .ok (.agg ([(.bool (.cmp .eq (.var 0) (.lit 0)))]++aK (.op .add zzd (.lit 1)))):=by kernel_rfl
theorem aDz:aY Try.prog aGN = .ok (.agg ([(.bool (.cmp .eq (.var 0) (.lit 0)))]++aK (.op .add zzd (.lit 1)))):=by kernel_rfl
theorem aF0:aY Try.prog aEs = .ok (.agg ([(.bool (.cmp .eq (.var 0) (.lit 0)))]++aK (.op .add zzd (.lit 1)))):=by kernel_rfl
theorem aGy:aY Try.prog aE0 = .ok (.agg ([(.bool (.cmp .eq (.var 0) (.lit 0)))]++aK (.op .add zzd (.lit 1)))):=by kernel_rfl
theorem aEl:aY Try.prog aE4 = .ok (.agg ([(.bool (.cmp .eq (.var 0) (.lit 0)))]++aK (.op .add zzd (.lit 1)))):=by kernel_rfl
theorem aHd:aY Try.prog aEA = .ok (.agg ([(.bool (.cmp .eq (.var 0) (.lit 0)))]++aK (.op .add zzd (.lit 1)))):=by kernel_rfl
set_option maxRecDepth 100000
open Go Go.RowKit Sx Wi
theorem aEv:aY Try.prog aHh = .ok (.agg ([(.bool (.cmp .eq (.var 0) (.lit 0)))]++aK (.op .add zzd (.lit 1)))):=by kernel_rfl
theorem aDg:aY Try.prog aEa = .ok (.agg ([(.bool (.cmp .eq (.var 0) (.lit 0)))]++aK (.op .add zzd (.lit 1)))):=by kernel_rfl
theorem aDD:aY Try.prog aDB = .ok (.agg ([(.bool (.cmp .eq (.var 0) (.lit 0)))]++aK (.op .add zzd (.lit 1)))):=by kernel_rfl
theorem aHC:aY Try.prog aF7 = .ok (.agg ([(.bool (.cmp .eq (.var 0) (.lit 0)))]++aK (.op .add zzd (.lit 1)))):=by kernel_rfl
theorem aHR:aY Try.prog aDr = .ok (.agg ([(.bool (.cmp .eq (.var 0) (.lit 0)))]++aK (.op .add zzd (.lit 1)))):=by kernel_rfl
theorem aDj:aY Try.prog aEr = .ok (.agg ([(.bool (.cmp .eq (.var 0) (.lit 0)))]++aK (.op .add zzd (.lit 1)))):=by kernel_rfl
theorem aF4:aY Try.prog aGM = .ok (.agg ([(.bool (.cmp .eq (.var 0) (.lit 0)))]++aK zzd)):=by kernel_rfl
theorem aGh:aY Try.prog aHK = .ok (.agg ([(.bool (.cmp .eq (.var 0) (.lit 0)))]++aK (.op .quo (.op .add (.op .add (.var 1) (.var 1)) (.var 3)) zzb))):=by kernel_rfl
theorem aIc:aY Try.prog aFR = .ok (.agg ([(.bool (.cmp .ne (.var 2) (.lit 0)))]++aK (.op .quo (.op .sub (.var 3) (.op .add (.var 1) (.var 1))) zzb))):=by kernel_rfl
theorem aEX:aY Try.prog aGb = .ok (.agg ([(.bool (.cmp .ne (.var 0) (.lit 0)))]++aK (.op .add zzd (.lit 1)))):=by kernel_rfl
set_option maxRecDepth 100000
open Go Go.RowKit Sx Wi
theorem aFq:aY Try.prog aEH = .ok (.agg ([(.bool (.cmp .ne (.var 0) (.lit 0)))]++aK (.op .add zzd (.lit 1)))):=by kernel_rfl
theorem aHb:aY Try.prog aIb = .ok (.agg ([(.bool (.cmp .ne (.var 0) (.lit 0)))]++aK (.op .add zzd (.lit 1)))):=by kernel_rfl
theorem aFu:aY Try.prog aFW = .ok (.agg ([(.bool (.cmp .ne (.var 0) (.lit 0)))]++aK (.op .add zzd (.lit 1)))):=by kernel_rfl
theorem aHm:aY Try.prog aHt = .ok (.agg ([(.bool (.cmp .ne (.var 0) (.lit 0)))]++aK (.op .add zzd (.lit 1)))):=by kernel_rfl
theorem aD3:aY Try.prog aEY = .ok (.agg ([(.bool (.cmp .ne (.var 0) (.lit 0)))]++aK (.op .add zzd (.lit 1)))):=by kernel_rfl
theorem aHs:aY Try.prog aF8 = .ok (.agg ([(.bool (.cmp .ne (.var 0) (.lit 0)))]++aK (.op .add zzd (.lit 1)))):=by kernel_rfl
theorem aDU:aY Try.prog aIh = .ok (.agg ([(.bool (.cmp .ne (.var 0) (.lit 0)))]++aK (.op .add zzd (.lit 1)))):=by kernel_rfl
theorem aGl:aY Try.prog aFV = .ok (.agg ([(.bool (.cmp .ne (.var 0) (.lit 0)))]++aK (.op .add zzd (.lit 1)))):=by kernel_rfl
theorem aF6:aY Try.prog aEU = .ok (.agg ([(.bool (.cmp .ne (.var 0) (.lit 0)))]++aK (.op .add zzd (.lit 1)))):=by kernel_rfl
theorem aH1:aY Try.prog aFY = .ok (.agg ([(.bool (.cmp .ne (.var 0) (.lit 0)))]++aK (.op .add zzd (.lit 1)))):=by kernel_rfl
set_option maxRecDepth 100000
open Go Go.RowKit Sx Wi
theorem aHf:aY Try.prog aHS = .ok (.agg ([(.bool (.cmp .ne (.var 0) (.lit 0)))]++aK (.op .add zzd (.lit 1)))):=by kernel_rfl
theorem aD1:aY Try.prog aHc = .ok (.agg ([(.bool (.cmp .ne (.var 0) (.lit 0)))]++aK zzd)):=by kernel_rfl
theorem aFN:aY Try.prog aIe = .ok (.agg ([(.bool (.cmp .ne (.var 0) (.lit 0)))]++aK (.op .add zzd (.lit 1)))):=by kernel_rfl
theorem aEM:aY Try.prog aFw = .ok (.agg ([(.bool (.cmp .ne (.var 0) (.lit 0)))]++aK (.op .add zzd (.lit 1)))):=by kernel_rfl
theorem aB8:aY Try.prog aCT = .ok (.agg ([(.bool (.cmp .ne (.var 0) (.lit 0)))]++aK (.op .add zzd (.lit 1)))):=by kernel_rfl
theorem aCz:aY Try.prog aCZ = .ok (.agg ([(.bool (.cmp .ne (.var 0) (.lit 0)))]++aK (.op .add zzd (.lit 1)))):=by kernel_rfl
theorem aCo:aY Try.prog aC5 = .ok (.agg ([(.bool (.cmp .ne (.var 0) (.lit 0)))]++aK (.op .add zzd (.lit 1)))):=by kernel_rfl
theorem aCb:aY Try.prog aCX = .ok (.agg ([(.bool (.cmp .ne (.var 0) (.lit 0)))]++aK (.op .add zzd (.lit 1)))):=by kernel_rfl
theorem aCK:aY Try.prog aCC = .ok (.agg ([(.bool (.cmp .ne (.var 0) (.lit 0)))]++aK (.op .add zzd (.lit 1)))):=by kernel_rfl
theorem aCG:aY Try.prog aCr = .ok (.agg ([(.bool (.cmp .ne (.var 0) (.lit 0)))]++aK (.op .add zzd (.lit 1)))):=by kernel_rfl
set_option maxRecDepth 100000
open Go Go.RowKit Sx Wi
theorem aCx:aY Try.prog aCF = .ok (.agg ([(.bool (.cmp .ne (.var 0) (.lit 0)))]++aK (.op .add zzd (.lit 1)))):=by kernel_rfl
theorem aCS:aY Try.prog aC4 = .ok (.agg ([(.bool (.cmp .ne (.var 0) (.lit 0)))]++aK (.op .add zzd (.lit 1)))):=by kernel_rfl
theorem aCf:aY Try.prog aCP = .ok (.agg ([(.bool (.cmp .ne (.var 0) (.lit 0)))]++aK (.op .add zzd (.lit 1)))):=by kernel_rfl
theorem aCs:aY Try.prog aCj = .ok (.agg ([(.bool (.cmp .ne (.var 0) (.lit 0)))]++aK (.op .add zzd (.lit 1)))):=by kernel_rfl
theorem aCQ:aY Try.prog aCy = .ok (.agg ([(.bool (.cmp .ne (.var 0) (.lit 0)))]++aK zzd)):=by kernel_rfl
theorem aB3:aY Try.prog aCB = .ok (.agg ([(.bool (.cmp .ne (.var 0) (.lit 0)))]++aK (.op .quo (.op .add (.op .add (.var 1) (.var 1)) (.var 3)) zzb))):=by kernel_rfl
end Go.Proofs.Ytkpdiehbaiepaaa
