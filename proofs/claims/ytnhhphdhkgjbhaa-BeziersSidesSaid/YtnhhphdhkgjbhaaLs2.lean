/- What is proved: what the run of a function comes to, on some of its ways. No condition. -/
import Derived.Test.YtnhhphdhkgjbhaaLs0
set_option linter.unusedVariables false
set_option maxRecDepth 100000
namespace Go.Proofs.Ytnhhphdhkgjbhaa
open Go Go.RowKit Sx Wi
theorem beziersSides_n140 : beziersSides_run Try.prog beziersSides_f140 = .ok (.bool (.lit false)) := by kernel_rfl
theorem beziersSides_n141 : beziersSides_run Try.prog beziersSides_f141 = .ok (.bool (.lit false)) := by kernel_rfl
theorem beziersSides_n144 : beziersSides_run Try.prog beziersSides_f144 = .ok (.bool (.lit true)) := by kernel_rfl
theorem beziersSides_n146 : beziersSides_run Try.prog beziersSides_f146 = .ok (.bool (.lit true)) := by kernel_rfl
theorem beziersSides_n148 : beziersSides_run Try.prog beziersSides_f148 = .ok (.bool (.lit true)) := by kernel_rfl
theorem beziersSides_n150 : beziersSides_run Try.prog beziersSides_f150 = .ok (.bool (.lit true)) := by kernel_rfl
theorem beziersSides_n152 : beziersSides_run Try.prog beziersSides_f152 = .ok (.bool (.lit true)) := by kernel_rfl
theorem beziersSides_n154 : beziersSides_run Try.prog beziersSides_f154 = .ok (.bool (.lit true)) := by kernel_rfl
theorem beziersSides_n156 : beziersSides_run Try.prog beziersSides_f156 = .ok (.bool (.lit true)) := by kernel_rfl
theorem beziersSides_n158 : beziersSides_run Try.prog beziersSides_f158 = .ok (.bool (.lit true)) := by kernel_rfl
theorem beziersSides_n160 : beziersSides_run Try.prog beziersSides_f160 = .ok (.bool (.lit true)) := by kernel_rfl
theorem beziersSides_n162 : beziersSides_run Try.prog beziersSides_f162 = .ok (.bool (.lit true)) := by kernel_rfl
theorem beziersSides_n164 : beziersSides_run Try.prog beziersSides_f164 = .ok (.bool (.lit true)) := by kernel_rfl
theorem beziersSides_n166 : beziersSides_run Try.prog beziersSides_f166 = .ok (.bool (.lit true)) := by kernel_rfl
theorem beziersSides_n168 : beziersSides_run Try.prog beziersSides_f168 = .ok (.bool (.lit true)) := by kernel_rfl
theorem beziersSides_n170 : beziersSides_run Try.prog beziersSides_f170 = .ok (.bool (.lit true)) := by kernel_rfl
theorem beziersSides_n172 : beziersSides_run Try.prog beziersSides_f172 = .ok (.bool (.lit true)) := by kernel_rfl
theorem beziersSides_n174 : beziersSides_run Try.prog beziersSides_f174 = .ok (.bool (.lit true)) := by kernel_rfl
theorem beziersSides_n176 : beziersSides_run Try.prog beziersSides_f176 = .ok (.bool (.lit true)) := by kernel_rfl
theorem beziersSides_n178 : beziersSides_run Try.prog beziersSides_f178 = .ok (.bool (.lit true)) := by kernel_rfl
theorem beziersSides_n180 : beziersSides_run Try.prog beziersSides_f180 = .ok (.bool (.lit true)) := by kernel_rfl
theorem beziersSides_n182 : beziersSides_run Try.prog beziersSides_f182 = .ok (.bool (.lit true)) := by kernel_rfl
theorem beziersSides_n184 : beziersSides_run Try.prog beziersSides_f184 = .ok (.bool (.lit true)) := by kernel_rfl
theorem beziersSides_n186 : beziersSides_run Try.prog beziersSides_f186 = .ok (.bool (.lit true)) := by kernel_rfl
theorem beziersSides_n188 : beziersSides_run Try.prog beziersSides_f188 = .ok (.bool (.lit true)) := by kernel_rfl
theorem beziersSides_n190 : beziersSides_run Try.prog beziersSides_f190 = .ok (.bool (.lit true)) := by kernel_rfl
theorem beziersSides_n192 : beziersSides_run Try.prog beziersSides_f192 = .ok (.bool (.lit true)) := by kernel_rfl
theorem beziersSides_n194 : beziersSides_run Try.prog beziersSides_f194 = .ok (.bool (.lit true)) := by kernel_rfl
theorem beziersSides_n196 : beziersSides_run Try.prog beziersSides_f196 = .ok (.bool (.lit true)) := by kernel_rfl
theorem beziersSides_n198 : beziersSides_run Try.prog beziersSides_f198 = .ok (.bool (.lit true)) := by kernel_rfl
theorem beziersSides_n200 : beziersSides_run Try.prog beziersSides_f200 = .ok (.bool (.lit true)) := by kernel_rfl
theorem beziersSides_n202 : beziersSides_run Try.prog beziersSides_f202 = .ok (.bool (.lit true)) := by kernel_rfl
theorem beziersSides_n204 : beziersSides_run Try.prog beziersSides_f204 = .ok (.bool (.lit true)) := by kernel_rfl
theorem beziersSides_n206 : beziersSides_run Try.prog beziersSides_f206 = .ok (.bool (.lit true)) := by kernel_rfl
theorem beziersSides_n208 : beziersSides_run Try.prog beziersSides_f208 = .ok (.bool (.lit true)) := by kernel_rfl
theorem beziersSides_n210 : beziersSides_run Try.prog beziersSides_f210 = .ok (.bool (.lit true)) := by kernel_rfl
theorem beziersSides_n212 : beziersSides_run Try.prog beziersSides_f212 = .ok (.bool (.lit true)) := by kernel_rfl
theorem beziersSides_n214 : beziersSides_run Try.prog beziersSides_f214 = .ok (.bool (.lit true)) := by kernel_rfl
theorem beziersSides_n216 : beziersSides_run Try.prog beziersSides_f216 = .ok (.bool (.lit true)) := by kernel_rfl
theorem beziersSides_n218 : beziersSides_run Try.prog beziersSides_f218 = .ok (.bool (.lit true)) := by kernel_rfl
theorem beziersSides_n220 : beziersSides_run Try.prog beziersSides_f220 = .ok (.bool (.lit true)) := by kernel_rfl
theorem beziersSides_n222 : beziersSides_run Try.prog beziersSides_f222 = .ok (.bool (.lit true)) := by kernel_rfl
theorem beziersSides_n224 : beziersSides_run Try.prog beziersSides_f224 = .ok (.bool (.lit true)) := by kernel_rfl
theorem beziersSides_n226 : beziersSides_run Try.prog beziersSides_f226 = .ok (.bool (.lit true)) := by kernel_rfl
theorem beziersSides_n228 : beziersSides_run Try.prog beziersSides_f228 = .ok (.bool (.lit true)) := by kernel_rfl
theorem beziersSides_n230 : beziersSides_run Try.prog beziersSides_f230 = .ok (.bool (.lit true)) := by kernel_rfl
theorem beziersSides_n232 : beziersSides_run Try.prog beziersSides_f232 = .ok (.bool (.lit true)) := by kernel_rfl
theorem beziersSides_n234 : beziersSides_run Try.prog beziersSides_f234 = .ok (.bool (.lit true)) := by kernel_rfl
theorem beziersSides_n236 : beziersSides_run Try.prog beziersSides_f236 = .ok (.bool (.lit true)) := by kernel_rfl
theorem beziersSides_n238 : beziersSides_run Try.prog beziersSides_f238 = .ok (.bool (.lit true)) := by kernel_rfl
theorem beziersSides_n240 : beziersSides_run Try.prog beziersSides_f240 = .ok (.bool (.lit true)) := by kernel_rfl
theorem beziersSides_n242 : beziersSides_run Try.prog beziersSides_f242 = .ok (.bool (.lit true)) := by kernel_rfl
theorem beziersSides_n244 : beziersSides_run Try.prog beziersSides_f244 = .ok (.bool (.lit true)) := by kernel_rfl
theorem beziersSides_n246 : beziersSides_run Try.prog beziersSides_f246 = .ok (.bool (.lit true)) := by kernel_rfl
theorem beziersSides_n248 : beziersSides_run Try.prog beziersSides_f248 = .ok (.bool (.lit true)) := by kernel_rfl
theorem beziersSides_n250 : beziersSides_run Try.prog beziersSides_f250 = .ok (.bool (.lit true)) := by kernel_rfl
theorem beziersSides_n252 : beziersSides_run Try.prog beziersSides_f252 = .ok (.bool (.lit true)) := by kernel_rfl
theorem beziersSides_n254 : beziersSides_run Try.prog beziersSides_f254 = .ok (.bool (.lit true)) := by kernel_rfl
theorem beziersSides_n256 : beziersSides_run Try.prog beziersSides_f256 = .ok (.bool (.lit true)) := by kernel_rfl
theorem beziersSides_n258 : beziersSides_run Try.prog beziersSides_f258 = .ok (.bool (.lit true)) := by kernel_rfl
theorem beziersSides_n260 : beziersSides_run Try.prog beziersSides_f260 = .ok (.bool (.lit true)) := by kernel_rfl
theorem beziersSides_n262 : beziersSides_run Try.prog beziersSides_f262 = .ok (.bool (.lit true)) := by kernel_rfl
theorem beziersSides_n264 : beziersSides_run Try.prog beziersSides_f264 = .ok (.bool (.lit true)) := by kernel_rfl
theorem beziersSides_n266 : beziersSides_run Try.prog beziersSides_f266 = .ok (.bool (.lit true)) := by kernel_rfl
theorem beziersSides_n268 : beziersSides_run Try.prog beziersSides_f268 = .ok (.bool (.lit true)) := by kernel_rfl
theorem beziersSides_n270 : beziersSides_run Try.prog beziersSides_f270 = .ok (.bool (.lit true)) := by kernel_rfl
theorem beziersSides_n273 : beziersSides_run Try.prog beziersSides_f273 = .ok (.bool (.lit true)) := by kernel_rfl
theorem beziersSides_n274 : beziersSides_run Try.prog beziersSides_f274 = .ok (.bool (.lit false)) := by kernel_rfl
theorem beziersSides_n275 : beziersSides_run Try.prog beziersSides_f275 = .ok (.bool (.lit false)) := by kernel_rfl
end Go.Proofs.Ytnhhphdhkgjbhaa
