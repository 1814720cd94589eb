/- What is proved: the run of a function over its ways, and what is known on each: no theorem, the words alone. No condition. -/
import Derived.Test.YtldoimianllcdaaCa
import Derived.Test.YtldoimianllcdaaTl
set_option linter.unusedVariables false
set_option maxRecDepth 100000
namespace Go.Proofs.Ytldoimianllcdaa
open Go Go.RowKit Sx Wi
def coloursBytes_f0 : List B := []
def coloursBytes_b0 : B := (.cmp .lt (.var 1) (.var 0))
def coloursBytes_f1 : List B := grow coloursBytes_b0 ++ coloursBytes_f0
def coloursBytes_b1 : B := (.cmp .le (.op .fdiv (.op .add (.op .mul (.op .min (.op .max (.var 1) (.lit 0)) (.lit 65536)) (.lit 255)) (.lit 32768)) (.lit 65536)) (.op .fdiv (.op .add (.op .mul (.op .min (.op .max (.var 0) (.lit 0)) (.lit 65536)) (.lit 255)) (.lit 32768)) (.lit 65536)))
def coloursBytes_f2 : List B := grow coloursBytes_b1 ++ coloursBytes_f1
def coloursBytes_b2 : B := (.cmp .eq (.op .fdiv (.op .add (.op .mul (.op .min (.op .max (.op .quo (.op .add (.op .mul (.var 2) (.lit 65536)) (.lit 127)) (.lit 255)) (.lit 0)) (.lit 65536)) (.lit 255)) (.lit 32768)) (.lit 65536)) (.var 2))
def coloursBytes_f3 : List B := grow coloursBytes_b2 ++ coloursBytes_f2
def coloursBytes_f4 : List B := grow (B.neg coloursBytes_b2) ++ coloursBytes_f2
def coloursBytes_f5 : List B := grow (B.neg coloursBytes_b1) ++ coloursBytes_f1
def coloursBytes_f6 : List B := grow (B.neg coloursBytes_b0) ++ coloursBytes_f0
def coloursBytes_b6 : B := (.cmp .le (.op .fdiv (.op .add (.op .mul (.op .min (.op .max (.var 0) (.lit 0)) (.lit 65536)) (.lit 255)) (.lit 32768)) (.lit 65536)) (.op .fdiv (.op .add (.op .mul (.op .min (.op .max (.var 1) (.lit 0)) (.lit 65536)) (.lit 255)) (.lit 32768)) (.lit 65536)))
def coloursBytes_f7 : List B := grow coloursBytes_b6 ++ coloursBytes_f6
def coloursBytes_b7 : B := (.cmp .eq (.op .fdiv (.op .add (.op .mul (.op .min (.op .max (.op .quo (.op .add (.op .mul (.var 2) (.lit 65536)) (.lit 127)) (.lit 255)) (.lit 0)) (.lit 65536)) (.lit 255)) (.lit 32768)) (.lit 65536)) (.var 2))
def coloursBytes_f8 : List B := grow coloursBytes_b7 ++ coloursBytes_f7
def coloursBytes_f9 : List B := grow (B.neg coloursBytes_b7) ++ coloursBytes_f7
def coloursBytes_f10 : List B := grow (B.neg coloursBytes_b6) ++ coloursBytes_f6
end Go.Proofs.Ytldoimianllcdaa
