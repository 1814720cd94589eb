/- What is proved: the rounds of a product of rows of digits: the states between them. The conditions are the numbers' own bounds. -/
import Derived.Test.YtnffpaenalccaaaDoorQg5
import Derived.Test.YtnffpaenalccaaaDoorQg2
import Derived.Test.YtnffpaenalccaaaDoorProg
import Derived.Test.YtnffpaenalccaaaDoorQg4
import Derived.Test.YtnffpaenalccaaaDoorQg6
set_option linter.unusedSimpArgs false
set_option linter.unusedVariables false
namespace Go.Proofs.YtnffpaenalccaaaDoor
open Go Go.RowKit Sx Nu Wi
def prod_S0 : St := ⟨[.any, .any, .ptr 1 0, .ptr 2 0, .ptr 3 0, .ptr 4 0, .int .i64 (.lit 0), .any, .any, .any, .any, .any, .any, .any, .any, .any, .any, .any, .any, .any, .any, .any, .any, .any, .any, .any, .any, .any, .any, .any, .any, .any, .any, .any, .any, .any, .any, .any, .any, .any, .any, .any, .any, .any, .any, .any, .any, .any, .any, .any, .any], heapOf GB ++ [some ((.bool (.cmp .ne (.var 0) (.lit 0)) :: digL4 (.var 2)), 49), some ((.bool (.cmp .ne (.var 1) (.lit 0)) :: digL4 (.var 3)), 49), some ((.bool (.lit false) :: [.int .i64 (.lit 0), .int .i64 (.lit 0), .int .i64 (.lit 0), .int .i64 (.lit 0), .int .i64 (.lit 0), .int .i64 (.lit 0), .int .i64 (.lit 0), .int .i64 (.lit 0), .int .i64 (.lit 0), .int .i64 (.lit 0), .int .i64 (.lit 0), .int .i64 (.lit 0)]), 49), some ([.int .i64 (.lit 0), .int .i64 (.lit 0), .int .i64 (.lit 0), .int .i64 (.lit 0), .int .i64 (.lit 0), .int .i64 (.lit 0), .int .i64 (.lit 0), .int .i64 (.lit 0), .int .i64 (.lit 0), .int .i64 (.lit 0), .int .i64 (.lit 0), .int .i64 (.lit 0)], 47)]⟩
def prod_S1 : St := ⟨[.any, .any, .ptr 1 0, .ptr 2 0, .ptr 3 0, .ptr 4 0, .int .i64 (.lit 1), .any, .any, .any, .any, .any, .any, .any, .any, .any, .any, .any, .any, .any, .any, .any, .any, .any, .any, .any, .any, .any, .any, .any, .any, .any, .any, .any, .any, .any, .any, .any, .any, .any, .any, .any, .any, .any, .any, .any, .any, .any, .any, .any, .any], heapOf GB ++ [some ((.bool (.cmp .ne (.var 0) (.lit 0)) :: digL4 (.var 2)), 49), some ((.bool (.cmp .ne (.var 1) (.lit 0)) :: digL4 (.var 3)), 49), some ((.bool (.lit false) :: [.int .i64 (.lit 0), .int .i64 (.lit 0), .int .i64 (.lit 0), .int .i64 (.lit 0), .int .i64 (.lit 0), .int .i64 (.lit 0), .int .i64 (.lit 0), .int .i64 (.lit 0), .int .i64 (.lit 0), .int .i64 (.lit 0), .int .i64 (.lit 0), .int .i64 (.lit 0)]), 49), some ([dgE (.op .mul (.app 33 (.cons (.var 2) (.cons (.lit 65536) .nil))) (.var 3)) 1, dgE (.op .mul (.app 33 (.cons (.var 2) (.cons (.lit 65536) .nil))) (.var 3)) 65536, dgE (.op .mul (.app 33 (.cons (.var 2) (.cons (.lit 65536) .nil))) (.var 3)) 4294967296, dgE (.op .mul (.app 33 (.cons (.var 2) (.cons (.lit 65536) .nil))) (.var 3)) 281474976710656, dgE (.op .mul (.app 33 (.cons (.var 2) (.cons (.lit 65536) .nil))) (.var 3)) 18446744073709551616, .int .i64 (.lit 0), .int .i64 (.lit 0), .int .i64 (.lit 0), .int .i64 (.lit 0), .int .i64 (.lit 0), .int .i64 (.lit 0), .int .i64 (.lit 0)], 47)]⟩
def prod_S2 : St := ⟨[.any, .any, .ptr 1 0, .ptr 2 0, .ptr 3 0, .ptr 4 0, .int .i64 (.lit 2), .any, .any, .any, .any, .any, .any, .any, .any, .any, .any, .any, .any, .any, .any, .any, .any, .any, .any, .any, .any, .any, .any, .any, .any, .any, .any, .any, .any, .any, .any, .any, .any, .any, .any, .any, .any, .any, .any, .any, .any, .any, .any, .any, .any], heapOf GB ++ [some ((.bool (.cmp .ne (.var 0) (.lit 0)) :: digL4 (.var 2)), 49), some ((.bool (.cmp .ne (.var 1) (.lit 0)) :: digL4 (.var 3)), 49), some ((.bool (.lit false) :: [.int .i64 (.lit 0), .int .i64 (.lit 0), .int .i64 (.lit 0), .int .i64 (.lit 0), .int .i64 (.lit 0), .int .i64 (.lit 0), .int .i64 (.lit 0), .int .i64 (.lit 0), .int .i64 (.lit 0), .int .i64 (.lit 0), .int .i64 (.lit 0), .int .i64 (.lit 0)]), 49), some ([dgE (.op .mul (.app 33 (.cons (.var 2) (.cons (.lit 4294967296) .nil))) (.var 3)) 1, dgE (.op .mul (.app 33 (.cons (.var 2) (.cons (.lit 4294967296) .nil))) (.var 3)) 65536, dgE (.op .mul (.app 33 (.cons (.var 2) (.cons (.lit 4294967296) .nil))) (.var 3)) 4294967296, dgE (.op .mul (.app 33 (.cons (.var 2) (.cons (.lit 4294967296) .nil))) (.var 3)) 281474976710656, dgE (.op .mul (.app 33 (.cons (.var 2) (.cons (.lit 4294967296) .nil))) (.var 3)) 18446744073709551616, dgE (.op .mul (.app 33 (.cons (.var 2) (.cons (.lit 4294967296) .nil))) (.var 3)) 1208925819614629174706176, .int .i64 (.lit 0), .int .i64 (.lit 0), .int .i64 (.lit 0), .int .i64 (.lit 0), .int .i64 (.lit 0), .int .i64 (.lit 0)], 47)]⟩
def prod_S3 : St := ⟨[.any, .any, .ptr 1 0, .ptr 2 0, .ptr 3 0, .ptr 4 0, .int .i64 (.lit 3), .any, .any, .any, .any, .any, .any, .any, .any, .any, .any, .any, .any, .any, .any, .any, .any, .any, .any, .any, .any, .any, .any, .any, .any, .any, .any, .any, .any, .any, .any, .any, .any, .any, .any, .any, .any, .any, .any, .any, .any, .any, .any, .any, .any], heapOf GB ++ [some ((.bool (.cmp .ne (.var 0) (.lit 0)) :: digL4 (.var 2)), 49), some ((.bool (.cmp .ne (.var 1) (.lit 0)) :: digL4 (.var 3)), 49), some ((.bool (.lit false) :: [.int .i64 (.lit 0), .int .i64 (.lit 0), .int .i64 (.lit 0), .int .i64 (.lit 0), .int .i64 (.lit 0), .int .i64 (.lit 0), .int .i64 (.lit 0), .int .i64 (.lit 0), .int .i64 (.lit 0), .int .i64 (.lit 0), .int .i64 (.lit 0), .int .i64 (.lit 0)]), 49), some ([dgE (.op .mul (.app 33 (.cons (.var 2) (.cons (.lit 281474976710656) .nil))) (.var 3)) 1, dgE (.op .mul (.app 33 (.cons (.var 2) (.cons (.lit 281474976710656) .nil))) (.var 3)) 65536, dgE (.op .mul (.app 33 (.cons (.var 2) (.cons (.lit 281474976710656) .nil))) (.var 3)) 4294967296, dgE (.op .mul (.app 33 (.cons (.var 2) (.cons (.lit 281474976710656) .nil))) (.var 3)) 281474976710656, dgE (.op .mul (.app 33 (.cons (.var 2) (.cons (.lit 281474976710656) .nil))) (.var 3)) 18446744073709551616, dgE (.op .mul (.app 33 (.cons (.var 2) (.cons (.lit 281474976710656) .nil))) (.var 3)) 1208925819614629174706176, dgE (.op .mul (.app 33 (.cons (.var 2) (.cons (.lit 281474976710656) .nil))) (.var 3)) 79228162514264337593543950336, .int .i64 (.lit 0), .int .i64 (.lit 0), .int .i64 (.lit 0), .int .i64 (.lit 0), .int .i64 (.lit 0)], 47)]⟩
def prod_S4 : St := ⟨[.any, .any, .ptr 1 0, .ptr 2 0, .ptr 3 0, .ptr 4 0, .int .i64 (.lit 4), .any, .any, .any, .any, .any, .any, .any, .any, .any, .any, .any, .any, .any, .any, .any, .any, .any, .any, .any, .any, .any, .any, .any, .any, .any, .any, .any, .any, .any, .any, .any, .any, .any, .any, .any, .any, .any, .any, .any, .any, .any, .any, .any, .any], heapOf GB ++ [some ((.bool (.cmp .ne (.var 0) (.lit 0)) :: digL4 (.var 2)), 49), some ((.bool (.cmp .ne (.var 1) (.lit 0)) :: digL4 (.var 3)), 49), some ((.bool (.lit false) :: [.int .i64 (.lit 0), .int .i64 (.lit 0), .int .i64 (.lit 0), .int .i64 (.lit 0), .int .i64 (.lit 0), .int .i64 (.lit 0), .int .i64 (.lit 0), .int .i64 (.lit 0), .int .i64 (.lit 0), .int .i64 (.lit 0), .int .i64 (.lit 0), .int .i64 (.lit 0)]), 49), some ([dgE (.op .mul (.app 33 (.cons (.var 2) (.cons (.lit 18446744073709551616) .nil))) (.var 3)) 1, dgE (.op .mul (.app 33 (.cons (.var 2) (.cons (.lit 18446744073709551616) .nil))) (.var 3)) 65536, dgE (.op .mul (.app 33 (.cons (.var 2) (.cons (.lit 18446744073709551616) .nil))) (.var 3)) 4294967296, dgE (.op .mul (.app 33 (.cons (.var 2) (.cons (.lit 18446744073709551616) .nil))) (.var 3)) 281474976710656, dgE (.op .mul (.app 33 (.cons (.var 2) (.cons (.lit 18446744073709551616) .nil))) (.var 3)) 18446744073709551616, dgE (.op .mul (.app 33 (.cons (.var 2) (.cons (.lit 18446744073709551616) .nil))) (.var 3)) 1208925819614629174706176, dgE (.op .mul (.app 33 (.cons (.var 2) (.cons (.lit 18446744073709551616) .nil))) (.var 3)) 79228162514264337593543950336, dgE (.op .mul (.app 33 (.cons (.var 2) (.cons (.lit 18446744073709551616) .nil))) (.var 3)) 5192296858534827628530496329220096, .int .i64 (.lit 0), .int .i64 (.lit 0), .int .i64 (.lit 0), .int .i64 (.lit 0)], 47)]⟩
def prod_S5 : St := ⟨[.any, .any, .ptr 1 0, .ptr 2 0, .ptr 3 0, .ptr 4 0, .int .i64 (.lit 5), .any, .any, .any, .any, .any, .any, .any, .any, .any, .any, .any, .any, .any, .any, .any, .any, .any, .any, .any, .any, .any, .any, .any, .any, .any, .any, .any, .any, .any, .any, .any, .any, .any, .any, .any, .any, .any, .any, .any, .any, .any, .any, .any, .any], heapOf GB ++ [some ((.bool (.cmp .ne (.var 0) (.lit 0)) :: digL4 (.var 2)), 49), some ((.bool (.cmp .ne (.var 1) (.lit 0)) :: digL4 (.var 3)), 49), some ((.bool (.lit false) :: [.int .i64 (.lit 0), .int .i64 (.lit 0), .int .i64 (.lit 0), .int .i64 (.lit 0), .int .i64 (.lit 0), .int .i64 (.lit 0), .int .i64 (.lit 0), .int .i64 (.lit 0), .int .i64 (.lit 0), .int .i64 (.lit 0), .int .i64 (.lit 0), .int .i64 (.lit 0)]), 49), some ([dgE (.op .mul (.app 33 (.cons (.var 2) (.cons (.lit 18446744073709551616) .nil))) (.var 3)) 1, dgE (.op .mul (.app 33 (.cons (.var 2) (.cons (.lit 18446744073709551616) .nil))) (.var 3)) 65536, dgE (.op .mul (.app 33 (.cons (.var 2) (.cons (.lit 18446744073709551616) .nil))) (.var 3)) 4294967296, dgE (.op .mul (.app 33 (.cons (.var 2) (.cons (.lit 18446744073709551616) .nil))) (.var 3)) 281474976710656, dgE (.op .mul (.app 33 (.cons (.var 2) (.cons (.lit 18446744073709551616) .nil))) (.var 3)) 18446744073709551616, dgE (.op .mul (.app 33 (.cons (.var 2) (.cons (.lit 18446744073709551616) .nil))) (.var 3)) 1208925819614629174706176, dgE (.op .mul (.app 33 (.cons (.var 2) (.cons (.lit 18446744073709551616) .nil))) (.var 3)) 79228162514264337593543950336, dgE (.op .mul (.app 33 (.cons (.var 2) (.cons (.lit 18446744073709551616) .nil))) (.var 3)) 5192296858534827628530496329220096, .int .i64 (.lit 0), .int .i64 (.lit 0), .int .i64 (.lit 0), .int .i64 (.lit 0)], 47)]⟩
def prod_S6 : St := ⟨[.any, .any, .ptr 1 0, .ptr 2 0, .ptr 3 0, .ptr 4 0, .int .i64 (.lit 6), .any, .any, .any, .any, .any, .any, .any, .any, .any, .any, .any, .any, .any, .any, .any, .any, .any, .any, .any, .any, .any, .any, .any, .any, .any, .any, .any, .any, .any, .any, .any, .any, .any, .any, .any, .any, .any, .any, .any, .any, .any, .any, .any, .any], heapOf GB ++ [some ((.bool (.cmp .ne (.var 0) (.lit 0)) :: digL4 (.var 2)), 49), some ((.bool (.cmp .ne (.var 1) (.lit 0)) :: digL4 (.var 3)), 49), some ((.bool (.lit false) :: [.int .i64 (.lit 0), .int .i64 (.lit 0), .int .i64 (.lit 0), .int .i64 (.lit 0), .int .i64 (.lit 0), .int .i64 (.lit 0), .int .i64 (.lit 0), .int .i64 (.lit 0), .int .i64 (.lit 0), .int .i64 (.lit 0), .int .i64 (.lit 0), .int .i64 (.lit 0)]), 49), some ([dgE (.op .mul (.app 33 (.cons (.var 2) (.cons (.lit 18446744073709551616) .nil))) (.var 3)) 1, dgE (.op .mul (.app 33 (.cons (.var 2) (.cons (.lit 18446744073709551616) .nil))) (.var 3)) 65536, dgE (.op .mul (.app 33 (.cons (.var 2) (.cons (.lit 18446744073709551616) .nil))) (.var 3)) 4294967296, dgE (.op .mul (.app 33 (.cons (.var 2) (.cons (.lit 18446744073709551616) .nil))) (.var 3)) 281474976710656, dgE (.op .mul (.app 33 (.cons (.var 2) (.cons (.lit 18446744073709551616) .nil))) (.var 3)) 18446744073709551616, dgE (.op .mul (.app 33 (.cons (.var 2) (.cons (.lit 18446744073709551616) .nil))) (.var 3)) 1208925819614629174706176, dgE (.op .mul (.app 33 (.cons (.var 2) (.cons (.lit 18446744073709551616) .nil))) (.var 3)) 79228162514264337593543950336, dgE (.op .mul (.app 33 (.cons (.var 2) (.cons (.lit 18446744073709551616) .nil))) (.var 3)) 5192296858534827628530496329220096, .int .i64 (.lit 0), .int .i64 (.lit 0), .int .i64 (.lit 0), .int .i64 (.lit 0)], 47)]⟩
def prod_S7 : St := ⟨[.any, .any, .ptr 1 0, .ptr 2 0, .ptr 3 0, .ptr 4 0, .int .i64 (.lit 7), .any, .any, .any, .any, .any, .any, .any, .any, .any, .any, .any, .any, .any, .any, .any, .any, .any, .any, .any, .any, .any, .any, .any, .any, .any, .any, .any, .any, .any, .any, .any, .any, .any, .any, .any, .any, .any, .any, .any, .any, .any, .any, .any, .any], heapOf GB ++ [some ((.bool (.cmp .ne (.var 0) (.lit 0)) :: digL4 (.var 2)), 49), some ((.bool (.cmp .ne (.var 1) (.lit 0)) :: digL4 (.var 3)), 49), some ((.bool (.lit false) :: [.int .i64 (.lit 0), .int .i64 (.lit 0), .int .i64 (.lit 0), .int .i64 (.lit 0), .int .i64 (.lit 0), .int .i64 (.lit 0), .int .i64 (.lit 0), .int .i64 (.lit 0), .int .i64 (.lit 0), .int .i64 (.lit 0), .int .i64 (.lit 0), .int .i64 (.lit 0)]), 49), some ([dgE (.op .mul (.app 33 (.cons (.var 2) (.cons (.lit 18446744073709551616) .nil))) (.var 3)) 1, dgE (.op .mul (.app 33 (.cons (.var 2) (.cons (.lit 18446744073709551616) .nil))) (.var 3)) 65536, dgE (.op .mul (.app 33 (.cons (.var 2) (.cons (.lit 18446744073709551616) .nil))) (.var 3)) 4294967296, dgE (.op .mul (.app 33 (.cons (.var 2) (.cons (.lit 18446744073709551616) .nil))) (.var 3)) 281474976710656, dgE (.op .mul (.app 33 (.cons (.var 2) (.cons (.lit 18446744073709551616) .nil))) (.var 3)) 18446744073709551616, dgE (.op .mul (.app 33 (.cons (.var 2) (.cons (.lit 18446744073709551616) .nil))) (.var 3)) 1208925819614629174706176, dgE (.op .mul (.app 33 (.cons (.var 2) (.cons (.lit 18446744073709551616) .nil))) (.var 3)) 79228162514264337593543950336, dgE (.op .mul (.app 33 (.cons (.var 2) (.cons (.lit 18446744073709551616) .nil))) (.var 3)) 5192296858534827628530496329220096, .int .i64 (.lit 0), .int .i64 (.lit 0), .int .i64 (.lit 0), .int .i64 (.lit 0)], 47)]⟩
def prod_S8 : St := ⟨[.any, .any, .ptr 1 0, .ptr 2 0, .ptr 3 0, .ptr 4 0, .int .i64 (.lit 8), .any, .any, .any, .any, .any, .any, .any, .any, .any, .any, .any, .any, .any, .any, .any, .any, .any, .any, .any, .any, .any, .any, .any, .any, .any, .any, .any, .any, .any, .any, .any, .any, .any, .any, .any, .any, .any, .any, .any, .any, .any, .any, .any, .any], heapOf GB ++ [some ((.bool (.cmp .ne (.var 0) (.lit 0)) :: digL4 (.var 2)), 49), some ((.bool (.cmp .ne (.var 1) (.lit 0)) :: digL4 (.var 3)), 49), some ((.bool (.lit false) :: [.int .i64 (.lit 0), .int .i64 (.lit 0), .int .i64 (.lit 0), .int .i64 (.lit 0), .int .i64 (.lit 0), .int .i64 (.lit 0), .int .i64 (.lit 0), .int .i64 (.lit 0), .int .i64 (.lit 0), .int .i64 (.lit 0), .int .i64 (.lit 0), .int .i64 (.lit 0)]), 49), some ([dgE (.op .mul (.app 33 (.cons (.var 2) (.cons (.lit 18446744073709551616) .nil))) (.var 3)) 1, dgE (.op .mul (.app 33 (.cons (.var 2) (.cons (.lit 18446744073709551616) .nil))) (.var 3)) 65536, dgE (.op .mul (.app 33 (.cons (.var 2) (.cons (.lit 18446744073709551616) .nil))) (.var 3)) 4294967296, dgE (.op .mul (.app 33 (.cons (.var 2) (.cons (.lit 18446744073709551616) .nil))) (.var 3)) 281474976710656, dgE (.op .mul (.app 33 (.cons (.var 2) (.cons (.lit 18446744073709551616) .nil))) (.var 3)) 18446744073709551616, dgE (.op .mul (.app 33 (.cons (.var 2) (.cons (.lit 18446744073709551616) .nil))) (.var 3)) 1208925819614629174706176, dgE (.op .mul (.app 33 (.cons (.var 2) (.cons (.lit 18446744073709551616) .nil))) (.var 3)) 79228162514264337593543950336, dgE (.op .mul (.app 33 (.cons (.var 2) (.cons (.lit 18446744073709551616) .nil))) (.var 3)) 5192296858534827628530496329220096, .int .i64 (.lit 0), .int .i64 (.lit 0), .int .i64 (.lit 0), .int .i64 (.lit 0)], 47)]⟩
def prod_S9 : St := ⟨[.any, .any, .ptr 1 0, .ptr 2 0, .ptr 3 0, .ptr 4 0, .int .i64 (.lit 9), .any, .any, .any, .any, .any, .any, .any, .any, .any, .any, .any, .any, .any, .any, .any, .any, .any, .any, .any, .any, .any, .any, .any, .any, .any, .any, .any, .any, .any, .any, .any, .any, .any, .any, .any, .any, .any, .any, .any, .any, .any, .any, .any, .any], heapOf GB ++ [some ((.bool (.cmp .ne (.var 0) (.lit 0)) :: digL4 (.var 2)), 49), some ((.bool (.cmp .ne (.var 1) (.lit 0)) :: digL4 (.var 3)), 49), some ((.bool (.lit false) :: [.int .i64 (.lit 0), .int .i64 (.lit 0), .int .i64 (.lit 0), .int .i64 (.lit 0), .int .i64 (.lit 0), .int .i64 (.lit 0), .int .i64 (.lit 0), .int .i64 (.lit 0), .int .i64 (.lit 0), .int .i64 (.lit 0), .int .i64 (.lit 0), .int .i64 (.lit 0)]), 49), some ([dgE (.op .mul (.app 33 (.cons (.var 2) (.cons (.lit 18446744073709551616) .nil))) (.var 3)) 1, dgE (.op .mul (.app 33 (.cons (.var 2) (.cons (.lit 18446744073709551616) .nil))) (.var 3)) 65536, dgE (.op .mul (.app 33 (.cons (.var 2) (.cons (.lit 18446744073709551616) .nil))) (.var 3)) 4294967296, dgE (.op .mul (.app 33 (.cons (.var 2) (.cons (.lit 18446744073709551616) .nil))) (.var 3)) 281474976710656, dgE (.op .mul (.app 33 (.cons (.var 2) (.cons (.lit 18446744073709551616) .nil))) (.var 3)) 18446744073709551616, dgE (.op .mul (.app 33 (.cons (.var 2) (.cons (.lit 18446744073709551616) .nil))) (.var 3)) 1208925819614629174706176, dgE (.op .mul (.app 33 (.cons (.var 2) (.cons (.lit 18446744073709551616) .nil))) (.var 3)) 79228162514264337593543950336, dgE (.op .mul (.app 33 (.cons (.var 2) (.cons (.lit 18446744073709551616) .nil))) (.var 3)) 5192296858534827628530496329220096, .int .i64 (.lit 0), .int .i64 (.lit 0), .int .i64 (.lit 0), .int .i64 (.lit 0)], 47)]⟩
def prod_S10 : St := ⟨[.any, .any, .ptr 1 0, .ptr 2 0, .ptr 3 0, .ptr 4 0, .int .i64 (.lit 10), .any, .any, .any, .any, .any, .any, .any, .any, .any, .any, .any, .any, .any, .any, .any, .any, .any, .any, .any, .any, .any, .any, .any, .any, .any, .any, .any, .any, .any, .any, .any, .any, .any, .any, .any, .any, .any, .any, .any, .any, .any, .any, .any, .any], heapOf GB ++ [some ((.bool (.cmp .ne (.var 0) (.lit 0)) :: digL4 (.var 2)), 49), some ((.bool (.cmp .ne (.var 1) (.lit 0)) :: digL4 (.var 3)), 49), some ((.bool (.lit false) :: [.int .i64 (.lit 0), .int .i64 (.lit 0), .int .i64 (.lit 0), .int .i64 (.lit 0), .int .i64 (.lit 0), .int .i64 (.lit 0), .int .i64 (.lit 0), .int .i64 (.lit 0), .int .i64 (.lit 0), .int .i64 (.lit 0), .int .i64 (.lit 0), .int .i64 (.lit 0)]), 49), some ([dgE (.op .mul (.app 33 (.cons (.var 2) (.cons (.lit 18446744073709551616) .nil))) (.var 3)) 1, dgE (.op .mul (.app 33 (.cons (.var 2) (.cons (.lit 18446744073709551616) .nil))) (.var 3)) 65536, dgE (.op .mul (.app 33 (.cons (.var 2) (.cons (.lit 18446744073709551616) .nil))) (.var 3)) 4294967296, dgE (.op .mul (.app 33 (.cons (.var 2) (.cons (.lit 18446744073709551616) .nil))) (.var 3)) 281474976710656, dgE (.op .mul (.app 33 (.cons (.var 2) (.cons (.lit 18446744073709551616) .nil))) (.var 3)) 18446744073709551616, dgE (.op .mul (.app 33 (.cons (.var 2) (.cons (.lit 18446744073709551616) .nil))) (.var 3)) 1208925819614629174706176, dgE (.op .mul (.app 33 (.cons (.var 2) (.cons (.lit 18446744073709551616) .nil))) (.var 3)) 79228162514264337593543950336, dgE (.op .mul (.app 33 (.cons (.var 2) (.cons (.lit 18446744073709551616) .nil))) (.var 3)) 5192296858534827628530496329220096, .int .i64 (.lit 0), .int .i64 (.lit 0), .int .i64 (.lit 0), .int .i64 (.lit 0)], 47)]⟩
def prod_S11 : St := ⟨[.any, .any, .ptr 1 0, .ptr 2 0, .ptr 3 0, .ptr 4 0, .int .i64 (.lit 11), .any, .any, .any, .any, .any, .any, .any, .any, .any, .any, .any, .any, .any, .any, .any, .any, .any, .any, .any, .any, .any, .any, .any, .any, .any, .any, .any, .any, .any, .any, .any, .any, .any, .any, .any, .any, .any, .any, .any, .any, .any, .any, .any, .any], heapOf GB ++ [some ((.bool (.cmp .ne (.var 0) (.lit 0)) :: digL4 (.var 2)), 49), some ((.bool (.cmp .ne (.var 1) (.lit 0)) :: digL4 (.var 3)), 49), some ((.bool (.lit false) :: [.int .i64 (.lit 0), .int .i64 (.lit 0), .int .i64 (.lit 0), .int .i64 (.lit 0), .int .i64 (.lit 0), .int .i64 (.lit 0), .int .i64 (.lit 0), .int .i64 (.lit 0), .int .i64 (.lit 0), .int .i64 (.lit 0), .int .i64 (.lit 0), .int .i64 (.lit 0)]), 49), some ([dgE (.op .mul (.app 33 (.cons (.var 2) (.cons (.lit 18446744073709551616) .nil))) (.var 3)) 1, dgE (.op .mul (.app 33 (.cons (.var 2) (.cons (.lit 18446744073709551616) .nil))) (.var 3)) 65536, dgE (.op .mul (.app 33 (.cons (.var 2) (.cons (.lit 18446744073709551616) .nil))) (.var 3)) 4294967296, dgE (.op .mul (.app 33 (.cons (.var 2) (.cons (.lit 18446744073709551616) .nil))) (.var 3)) 281474976710656, dgE (.op .mul (.app 33 (.cons (.var 2) (.cons (.lit 18446744073709551616) .nil))) (.var 3)) 18446744073709551616, dgE (.op .mul (.app 33 (.cons (.var 2) (.cons (.lit 18446744073709551616) .nil))) (.var 3)) 1208925819614629174706176, dgE (.op .mul (.app 33 (.cons (.var 2) (.cons (.lit 18446744073709551616) .nil))) (.var 3)) 79228162514264337593543950336, dgE (.op .mul (.app 33 (.cons (.var 2) (.cons (.lit 18446744073709551616) .nil))) (.var 3)) 5192296858534827628530496329220096, .int .i64 (.lit 0), .int .i64 (.lit 0), .int .i64 (.lit 0), .int .i64 (.lit 0)], 47)]⟩
def prod_S12 : St := ⟨[.any, .any, .ptr 1 0, .ptr 2 0, .ptr 3 0, .ptr 4 0, .int .i64 (.lit 12), .any, .any, .any, .any, .any, .any, .any, .any, .any, .any, .any, .any, .any, .any, .any, .any, .any, .any, .any, .any, .any, .any, .any, .any, .any, .any, .any, .any, .any, .any, .any, .any, .any, .any, .any, .any, .any, .any, .any, .any, .any, .any, .any, .any], heapOf GB ++ [some ((.bool (.cmp .ne (.var 0) (.lit 0)) :: digL4 (.var 2)), 49), some ((.bool (.cmp .ne (.var 1) (.lit 0)) :: digL4 (.var 3)), 49), some ((.bool (.lit false) :: [.int .i64 (.lit 0), .int .i64 (.lit 0), .int .i64 (.lit 0), .int .i64 (.lit 0), .int .i64 (.lit 0), .int .i64 (.lit 0), .int .i64 (.lit 0), .int .i64 (.lit 0), .int .i64 (.lit 0), .int .i64 (.lit 0), .int .i64 (.lit 0), .int .i64 (.lit 0)]), 49), some ([dgE (.op .mul (.app 33 (.cons (.var 2) (.cons (.lit 18446744073709551616) .nil))) (.var 3)) 1, dgE (.op .mul (.app 33 (.cons (.var 2) (.cons (.lit 18446744073709551616) .nil))) (.var 3)) 65536, dgE (.op .mul (.app 33 (.cons (.var 2) (.cons (.lit 18446744073709551616) .nil))) (.var 3)) 4294967296, dgE (.op .mul (.app 33 (.cons (.var 2) (.cons (.lit 18446744073709551616) .nil))) (.var 3)) 281474976710656, dgE (.op .mul (.app 33 (.cons (.var 2) (.cons (.lit 18446744073709551616) .nil))) (.var 3)) 18446744073709551616, dgE (.op .mul (.app 33 (.cons (.var 2) (.cons (.lit 18446744073709551616) .nil))) (.var 3)) 1208925819614629174706176, dgE (.op .mul (.app 33 (.cons (.var 2) (.cons (.lit 18446744073709551616) .nil))) (.var 3)) 79228162514264337593543950336, dgE (.op .mul (.app 33 (.cons (.var 2) (.cons (.lit 18446744073709551616) .nil))) (.var 3)) 5192296858534827628530496329220096, .int .i64 (.lit 0), .int .i64 (.lit 0), .int .i64 (.lit 0), .int .i64 (.lit 0)], 47)]⟩
def prod_S : Nat → St
  | 0 => prod_S0
  | 1 => prod_S1
  | 2 => prod_S2
  | 3 => prod_S3
  | 4 => prod_S4
  | 5 => prod_S5
  | 6 => prod_S6
  | 7 => prod_S7
  | 8 => prod_S8
  | 9 => prod_S9
  | 10 => prod_S10
  | 11 => prod_S11
  | 12 => prod_S12
  | _ => prod_S12
def prod_T : St := ⟨[.any, .any, .ptr 1 0, .ptr 2 0, .ptr 3 0, .ptr 4 0, .any, .any, .any, .any, .any, .any, .any, .any, .any, .any, .any, .any, .any, .any, .any, .any, .any, .any, .any, .any, .any, .any, .any, .any, .any, .any, .any, .any, .any, .any, .any, .any, .any, .any, .any, .any, .any, .any, .any, .any, .any, .any, .any, .any, .any], heapOf GB ++ [some ((.bool (.cmp .ne (.var 0) (.lit 0)) :: digL4 (.var 2)), 49), some ((.bool (.cmp .ne (.var 1) (.lit 0)) :: digL4 (.var 3)), 49), some ((.bool (.lit false) :: [.int .i64 (.lit 0), .int .i64 (.lit 0), .int .i64 (.lit 0), .int .i64 (.lit 0), .int .i64 (.lit 0), .int .i64 (.lit 0), .int .i64 (.lit 0), .int .i64 (.lit 0), .int .i64 (.lit 0), .int .i64 (.lit 0), .int .i64 (.lit 0), .int .i64 (.lit 0)]), 49), some (digL (.op .mul (.var 2) (.var 3)), 47)]⟩
def prod_B (P : Program) : Code := loopOf (bodyOf P 49)
def prod_run (P : Program) (k : Nat) (fs : List B) : Res SV := withCtx G GI [(0, 1), (0, 1), (0, 18446744073709551615), (0, 18446744073709551615)] fs fun X => exRound P X GB ctNil lpNil 3000 (prod_B P) 99 (prod_S k) (prod_S (k + 1)) prod_T 0
def prod_lp : Loops := lpOne 3 (loopEntry 99 prod_S0 prod_T 0 [])
theorem prod_loops : codeLoops (bodyOf Tryd.prog 49) = [prod_B Tryd.prog] := by kernel_rfl
end Go.Proofs.YtnffpaenalccaaaDoor
set_option maxRecDepth 100000
namespace Go.Proofs.YtnffpaenalccaaaDoor
open Go Go.RowKit Sx Wi
def prod0_R (P : Program) (fs : List B) : Res SV := prod_run P 0 fs
def prod0_f0 : List B := []
theorem prod0_n0 : prod0_R Tryd.prog prod0_f0 = .ok (.agg [(.int .i64 (.op .rem (.op .mul (.app 30 (.cons (.var 2) (.cons (.lit 1) .nil))) (.app 30 (.cons (.var 3) (.cons (.lit 1) .nil)))) (.lit 65536))), (.int .i64 (.app 30 (.cons (.op .mul (.app 33 (.cons (.var 2) (.cons (.lit 65536) .nil))) (.var 3)) (.cons (.lit 1) .nil)))), (.int .i64 (.op .rem (.op .add (.op .quo (.op .mul (.app 30 (.cons (.var 2) (.cons (.lit 1) .nil))) (.app 30 (.cons (.var 3) (.cons (.lit 1) .nil)))) (.lit 65536)) (.op .mul (.app 30 (.cons (.var 2) (.cons (.lit 1) .nil))) (.app 30 (.cons (.var 3) (.cons (.lit 65536) .nil))))) (.lit 65536))), (.int .i64 (.app 30 (.cons (.op .mul (.app 33 (.cons (.var 2) (.cons (.lit 65536) .nil))) (.var 3)) (.cons (.lit 65536) .nil)))), (.int .i64 (.op .rem (.op .add (.op .quo (.op .add (.op .quo (.op .mul (.app 30 (.cons (.var 2) (.cons (.lit 1) .nil))) (.app 30 (.cons (.var 3) (.cons (.lit 1) .nil)))) (.lit 65536)) (.op .mul (.app 30 (.cons (.var 2) (.cons (.lit 1) .nil))) (.app 30 (.cons (.var 3) (.cons (.lit 65536) .nil))))) (.lit 65536)) (.op .mul (.app 30 (.cons (.var 2) (.cons (.lit 1) .nil))) (.app 30 (.cons (.var 3) (.cons (.lit 4294967296) .nil))))) (.lit 65536))), (.int .i64 (.app 30 (.cons (.op .mul (.app 33 (.cons (.var 2) (.cons (.lit 65536) .nil))) (.var 3)) (.cons (.lit 4294967296) .nil)))), (.int .i64 (.op .rem (.op .add (.op .quo (.op .add (.op .quo (.op .add (.op .quo (.op .mul (.app 30 (.cons (.var 2) (.cons (.lit 1) .nil))) (.app 30 (.cons (.var 3) (.cons (.lit 1) .nil)))) (.lit 65536)) (.op .mul (.app 30 (.cons (.var 2) (.cons (.lit 1) .nil))) (.app 30 (.cons (.var 3) (.cons (.lit 65536) .nil))))) (.lit 65536)) (.op .mul (.app 30 (.cons (.var 2) (.cons (.lit 1) .nil))) (.app 30 (.cons (.var 3) (.cons (.lit 4294967296) .nil))))) (.lit 65536)) (.op .mul (.app 30 (.cons (.var 2) (.cons (.lit 1) .nil))) (.app 30 (.cons (.var 3) (.cons (.lit 281474976710656) .nil))))) (.lit 65536))), (.int .i64 (.app 30 (.cons (.op .mul (.app 33 (.cons (.var 2) (.cons (.lit 65536) .nil))) (.var 3)) (.cons (.lit 281474976710656) .nil)))), (.int .i64 (.op .quo (.op .add (.op .quo (.op .add (.op .quo (.op .add (.op .quo (.op .mul (.app 30 (.cons (.var 2) (.cons (.lit 1) .nil))) (.app 30 (.cons (.var 3) (.cons (.lit 1) .nil)))) (.lit 65536)) (.op .mul (.app 30 (.cons (.var 2) (.cons (.lit 1) .nil))) (.app 30 (.cons (.var 3) (.cons (.lit 65536) .nil))))) (.lit 65536)) (.op .mul (.app 30 (.cons (.var 2) (.cons (.lit 1) .nil))) (.app 30 (.cons (.var 3) (.cons (.lit 4294967296) .nil))))) (.lit 65536)) (.op .mul (.app 30 (.cons (.var 2) (.cons (.lit 1) .nil))) (.app 30 (.cons (.var 3) (.cons (.lit 281474976710656) .nil))))) (.lit 65536))), (.int .i64 (.app 30 (.cons (.op .mul (.app 33 (.cons (.var 2) (.cons (.lit 65536) .nil))) (.var 3)) (.cons (.lit 18446744073709551616) .nil))))]) := by kernel_rfl
end Go.Proofs.YtnffpaenalccaaaDoor
set_option maxRecDepth 100000
namespace Go.Proofs.YtnffpaenalccaaaDoor
open Go Go.RowKit Sx Wi
def prod1_R (P : Program) (fs : List B) : Res SV := prod_run P 1 fs
def prod1_f0 : List B := []
theorem prod1_n0 : prod1_R Tryd.prog prod1_f0 = .ok (.agg [(.int .i64 (.app 30 (.cons (.op .mul (.app 33 (.cons (.var 2) (.cons (.lit 65536) .nil))) (.var 3)) (.cons (.lit 1) .nil)))), (.int .i64 (.app 30 (.cons (.op .mul (.app 33 (.cons (.var 2) (.cons (.lit 4294967296) .nil))) (.var 3)) (.cons (.lit 1) .nil)))), (.int .i64 (.op .rem (.op .add (.app 30 (.cons (.op .mul (.app 33 (.cons (.var 2) (.cons (.lit 65536) .nil))) (.var 3)) (.cons (.lit 65536) .nil))) (.op .mul (.app 30 (.cons (.var 2) (.cons (.lit 65536) .nil))) (.app 30 (.cons (.var 3) (.cons (.lit 1) .nil))))) (.lit 65536))), (.int .i64 (.app 30 (.cons (.op .mul (.app 33 (.cons (.var 2) (.cons (.lit 4294967296) .nil))) (.var 3)) (.cons (.lit 65536) .nil)))), (.int .i64 (.op .rem (.op .add (.op .add (.op .quo (.op .add (.app 30 (.cons (.op .mul (.app 33 (.cons (.var 2) (.cons (.lit 65536) .nil))) (.var 3)) (.cons (.lit 65536) .nil))) (.op .mul (.app 30 (.cons (.var 2) (.cons (.lit 65536) .nil))) (.app 30 (.cons (.var 3) (.cons (.lit 1) .nil))))) (.lit 65536)) (.app 30 (.cons (.op .mul (.app 33 (.cons (.var 2) (.cons (.lit 65536) .nil))) (.var 3)) (.cons (.lit 4294967296) .nil)))) (.op .mul (.app 30 (.cons (.var 2) (.cons (.lit 65536) .nil))) (.app 30 (.cons (.var 3) (.cons (.lit 65536) .nil))))) (.lit 65536))), (.int .i64 (.app 30 (.cons (.op .mul (.app 33 (.cons (.var 2) (.cons (.lit 4294967296) .nil))) (.var 3)) (.cons (.lit 4294967296) .nil)))), (.int .i64 (.op .rem (.op .add (.op .add (.op .quo (.op .add (.op .add (.op .quo (.op .add (.app 30 (.cons (.op .mul (.app 33 (.cons (.var 2) (.cons (.lit 65536) .nil))) (.var 3)) (.cons (.lit 65536) .nil))) (.op .mul (.app 30 (.cons (.var 2) (.cons (.lit 65536) .nil))) (.app 30 (.cons (.var 3) (.cons (.lit 1) .nil))))) (.lit 65536)) (.app 30 (.cons (.op .mul (.app 33 (.cons (.var 2) (.cons (.lit 65536) .nil))) (.var 3)) (.cons (.lit 4294967296) .nil)))) (.op .mul (.app 30 (.cons (.var 2) (.cons (.lit 65536) .nil))) (.app 30 (.cons (.var 3) (.cons (.lit 65536) .nil))))) (.lit 65536)) (.app 30 (.cons (.op .mul (.app 33 (.cons (.var 2) (.cons (.lit 65536) .nil))) (.var 3)) (.cons (.lit 281474976710656) .nil)))) (.op .mul (.app 30 (.cons (.var 2) (.cons (.lit 65536) .nil))) (.app 30 (.cons (.var 3) (.cons (.lit 4294967296) .nil))))) (.lit 65536))), (.int .i64 (.app 30 (.cons (.op .mul (.app 33 (.cons (.var 2) (.cons (.lit 4294967296) .nil))) (.var 3)) (.cons (.lit 281474976710656) .nil)))), (.int .i64 (.op .rem (.op .add (.op .add (.op .quo (.op .add (.op .add (.op .quo (.op .add (.op .add (.op .quo (.op .add (.app 30 (.cons (.op .mul (.app 33 (.cons (.var 2) (.cons (.lit 65536) .nil))) (.var 3)) (.cons (.lit 65536) .nil))) (.op .mul (.app 30 (.cons (.var 2) (.cons (.lit 65536) .nil))) (.app 30 (.cons (.var 3) (.cons (.lit 1) .nil))))) (.lit 65536)) (.app 30 (.cons (.op .mul (.app 33 (.cons (.var 2) (.cons (.lit 65536) .nil))) (.var 3)) (.cons (.lit 4294967296) .nil)))) (.op .mul (.app 30 (.cons (.var 2) (.cons (.lit 65536) .nil))) (.app 30 (.cons (.var 3) (.cons (.lit 65536) .nil))))) (.lit 65536)) (.app 30 (.cons (.op .mul (.app 33 (.cons (.var 2) (.cons (.lit 65536) .nil))) (.var 3)) (.cons (.lit 281474976710656) .nil)))) (.op .mul (.app 30 (.cons (.var 2) (.cons (.lit 65536) .nil))) (.app 30 (.cons (.var 3) (.cons (.lit 4294967296) .nil))))) (.lit 65536)) (.app 30 (.cons (.op .mul (.app 33 (.cons (.var 2) (.cons (.lit 65536) .nil))) (.var 3)) (.cons (.lit 18446744073709551616) .nil)))) (.op .mul (.app 30 (.cons (.var 2) (.cons (.lit 65536) .nil))) (.app 30 (.cons (.var 3) (.cons (.lit 281474976710656) .nil))))) (.lit 65536))), (.int .i64 (.app 30 (.cons (.op .mul (.app 33 (.cons (.var 2) (.cons (.lit 4294967296) .nil))) (.var 3)) (.cons (.lit 18446744073709551616) .nil)))), (.int .i64 (.op .quo (.op .add (.op .add (.op .quo (.op .add (.op .add (.op .quo (.op .add (.op .add (.op .quo (.op .add (.app 30 (.cons (.op .mul (.app 33 (.cons (.var 2) (.cons (.lit 65536) .nil))) (.var 3)) (.cons (.lit 65536) .nil))) (.op .mul (.app 30 (.cons (.var 2) (.cons (.lit 65536) .nil))) (.app 30 (.cons (.var 3) (.cons (.lit 1) .nil))))) (.lit 65536)) (.app 30 (.cons (.op .mul (.app 33 (.cons (.var 2) (.cons (.lit 65536) .nil))) (.var 3)) (.cons (.lit 4294967296) .nil)))) (.op .mul (.app 30 (.cons (.var 2) (.cons (.lit 65536) .nil))) (.app 30 (.cons (.var 3) (.cons (.lit 65536) .nil))))) (.lit 65536)) (.app 30 (.cons (.op .mul (.app 33 (.cons (.var 2) (.cons (.lit 65536) .nil))) (.var 3)) (.cons (.lit 281474976710656) .nil)))) (.op .mul (.app 30 (.cons (.var 2) (.cons (.lit 65536) .nil))) (.app 30 (.cons (.var 3) (.cons (.lit 4294967296) .nil))))) (.lit 65536)) (.app 30 (.cons (.op .mul (.app 33 (.cons (.var 2) (.cons (.lit 65536) .nil))) (.var 3)) (.cons (.lit 18446744073709551616) .nil)))) (.op .mul (.app 30 (.cons (.var 2) (.cons (.lit 65536) .nil))) (.app 30 (.cons (.var 3) (.cons (.lit 281474976710656) .nil))))) (.lit 65536))), (.int .i64 (.app 30 (.cons (.op .mul (.app 33 (.cons (.var 2) (.cons (.lit 4294967296) .nil))) (.var 3)) (.cons (.lit 1208925819614629174706176) .nil))))]) := by kernel_rfl
end Go.Proofs.YtnffpaenalccaaaDoor
set_option maxRecDepth 100000
namespace Go.Proofs.YtnffpaenalccaaaDoor
open Go Go.RowKit Sx Wi
def prod2_R (P : Program) (fs : List B) : Res SV := prod_run P 2 fs
def prod2_f0 : List B := []
theorem prod2_n0 : prod2_R Tryd.prog prod2_f0 = .ok (.agg [(.int .i64 (.app 30 (.cons (.op .mul (.app 33 (.cons (.var 2) (.cons (.lit 4294967296) .nil))) (.var 3)) (.cons (.lit 1) .nil)))), (.int .i64 (.app 30 (.cons (.op .mul (.app 33 (.cons (.var 2) (.cons (.lit 281474976710656) .nil))) (.var 3)) (.cons (.lit 1) .nil)))), (.int .i64 (.app 30 (.cons (.op .mul (.app 33 (.cons (.var 2) (.cons (.lit 4294967296) .nil))) (.var 3)) (.cons (.lit 65536) .nil)))), (.int .i64 (.app 30 (.cons (.op .mul (.app 33 (.cons (.var 2) (.cons (.lit 281474976710656) .nil))) (.var 3)) (.cons (.lit 65536) .nil)))), (.int .i64 (.op .rem (.op .add (.app 30 (.cons (.op .mul (.app 33 (.cons (.var 2) (.cons (.lit 4294967296) .nil))) (.var 3)) (.cons (.lit 4294967296) .nil))) (.op .mul (.app 30 (.cons (.var 2) (.cons (.lit 4294967296) .nil))) (.app 30 (.cons (.var 3) (.cons (.lit 1) .nil))))) (.lit 65536))), (.int .i64 (.app 30 (.cons (.op .mul (.app 33 (.cons (.var 2) (.cons (.lit 281474976710656) .nil))) (.var 3)) (.cons (.lit 4294967296) .nil)))), (.int .i64 (.op .rem (.op .add (.op .add (.op .quo (.op .add (.app 30 (.cons (.op .mul (.app 33 (.cons (.var 2) (.cons (.lit 4294967296) .nil))) (.var 3)) (.cons (.lit 4294967296) .nil))) (.op .mul (.app 30 (.cons (.var 2) (.cons (.lit 4294967296) .nil))) (.app 30 (.cons (.var 3) (.cons (.lit 1) .nil))))) (.lit 65536)) (.app 30 (.cons (.op .mul (.app 33 (.cons (.var 2) (.cons (.lit 4294967296) .nil))) (.var 3)) (.cons (.lit 281474976710656) .nil)))) (.op .mul (.app 30 (.cons (.var 2) (.cons (.lit 4294967296) .nil))) (.app 30 (.cons (.var 3) (.cons (.lit 65536) .nil))))) (.lit 65536))), (.int .i64 (.app 30 (.cons (.op .mul (.app 33 (.cons (.var 2) (.cons (.lit 281474976710656) .nil))) (.var 3)) (.cons (.lit 281474976710656) .nil)))), (.int .i64 (.op .rem (.op .add (.op .add (.op .quo (.op .add (.op .add (.op .quo (.op .add (.app 30 (.cons (.op .mul (.app 33 (.cons (.var 2) (.cons (.lit 4294967296) .nil))) (.var 3)) (.cons (.lit 4294967296) .nil))) (.op .mul (.app 30 (.cons (.var 2) (.cons (.lit 4294967296) .nil))) (.app 30 (.cons (.var 3) (.cons (.lit 1) .nil))))) (.lit 65536)) (.app 30 (.cons (.op .mul (.app 33 (.cons (.var 2) (.cons (.lit 4294967296) .nil))) (.var 3)) (.cons (.lit 281474976710656) .nil)))) (.op .mul (.app 30 (.cons (.var 2) (.cons (.lit 4294967296) .nil))) (.app 30 (.cons (.var 3) (.cons (.lit 65536) .nil))))) (.lit 65536)) (.app 30 (.cons (.op .mul (.app 33 (.cons (.var 2) (.cons (.lit 4294967296) .nil))) (.var 3)) (.cons (.lit 18446744073709551616) .nil)))) (.op .mul (.app 30 (.cons (.var 2) (.cons (.lit 4294967296) .nil))) (.app 30 (.cons (.var 3) (.cons (.lit 4294967296) .nil))))) (.lit 65536))), (.int .i64 (.app 30 (.cons (.op .mul (.app 33 (.cons (.var 2) (.cons (.lit 281474976710656) .nil))) (.var 3)) (.cons (.lit 18446744073709551616) .nil)))), (.int .i64 (.op .rem (.op .add (.op .add (.op .quo (.op .add (.op .add (.op .quo (.op .add (.op .add (.op .quo (.op .add (.app 30 (.cons (.op .mul (.app 33 (.cons (.var 2) (.cons (.lit 4294967296) .nil))) (.var 3)) (.cons (.lit 4294967296) .nil))) (.op .mul (.app 30 (.cons (.var 2) (.cons (.lit 4294967296) .nil))) (.app 30 (.cons (.var 3) (.cons (.lit 1) .nil))))) (.lit 65536)) (.app 30 (.cons (.op .mul (.app 33 (.cons (.var 2) (.cons (.lit 4294967296) .nil))) (.var 3)) (.cons (.lit 281474976710656) .nil)))) (.op .mul (.app 30 (.cons (.var 2) (.cons (.lit 4294967296) .nil))) (.app 30 (.cons (.var 3) (.cons (.lit 65536) .nil))))) (.lit 65536)) (.app 30 (.cons (.op .mul (.app 33 (.cons (.var 2) (.cons (.lit 4294967296) .nil))) (.var 3)) (.cons (.lit 18446744073709551616) .nil)))) (.op .mul (.app 30 (.cons (.var 2) (.cons (.lit 4294967296) .nil))) (.app 30 (.cons (.var 3) (.cons (.lit 4294967296) .nil))))) (.lit 65536)) (.app 30 (.cons (.op .mul (.app 33 (.cons (.var 2) (.cons (.lit 4294967296) .nil))) (.var 3)) (.cons (.lit 1208925819614629174706176) .nil)))) (.op .mul (.app 30 (.cons (.var 2) (.cons (.lit 4294967296) .nil))) (.app 30 (.cons (.var 3) (.cons (.lit 281474976710656) .nil))))) (.lit 65536))), (.int .i64 (.app 30 (.cons (.op .mul (.app 33 (.cons (.var 2) (.cons (.lit 281474976710656) .nil))) (.var 3)) (.cons (.lit 1208925819614629174706176) .nil)))), (.int .i64 (.op .quo (.op .add (.op .add (.op .quo (.op .add (.op .add (.op .quo (.op .add (.op .add (.op .quo (.op .add (.app 30 (.cons (.op .mul (.app 33 (.cons (.var 2) (.cons (.lit 4294967296) .nil))) (.var 3)) (.cons (.lit 4294967296) .nil))) (.op .mul (.app 30 (.cons (.var 2) (.cons (.lit 4294967296) .nil))) (.app 30 (.cons (.var 3) (.cons (.lit 1) .nil))))) (.lit 65536)) (.app 30 (.cons (.op .mul (.app 33 (.cons (.var 2) (.cons (.lit 4294967296) .nil))) (.var 3)) (.cons (.lit 281474976710656) .nil)))) (.op .mul (.app 30 (.cons (.var 2) (.cons (.lit 4294967296) .nil))) (.app 30 (.cons (.var 3) (.cons (.lit 65536) .nil))))) (.lit 65536)) (.app 30 (.cons (.op .mul (.app 33 (.cons (.var 2) (.cons (.lit 4294967296) .nil))) (.var 3)) (.cons (.lit 18446744073709551616) .nil)))) (.op .mul (.app 30 (.cons (.var 2) (.cons (.lit 4294967296) .nil))) (.app 30 (.cons (.var 3) (.cons (.lit 4294967296) .nil))))) (.lit 65536)) (.app 30 (.cons (.op .mul (.app 33 (.cons (.var 2) (.cons (.lit 4294967296) .nil))) (.var 3)) (.cons (.lit 1208925819614629174706176) .nil)))) (.op .mul (.app 30 (.cons (.var 2) (.cons (.lit 4294967296) .nil))) (.app 30 (.cons (.var 3) (.cons (.lit 281474976710656) .nil))))) (.lit 65536))), (.int .i64 (.app 30 (.cons (.op .mul (.app 33 (.cons (.var 2) (.cons (.lit 281474976710656) .nil))) (.var 3)) (.cons (.lit 79228162514264337593543950336) .nil))))]) := by kernel_rfl
end Go.Proofs.YtnffpaenalccaaaDoor
set_option maxRecDepth 100000
namespace Go.Proofs.YtnffpaenalccaaaDoor
open Go Go.RowKit Sx Wi
def prod3_R (P : Program) (fs : List B) : Res SV := prod_run P 3 fs
def prod3_f0 : List B := []
theorem prod3_n0 : prod3_R Tryd.prog prod3_f0 = .ok (.agg [(.int .i64 (.app 30 (.cons (.op .mul (.app 33 (.cons (.var 2) (.cons (.lit 281474976710656) .nil))) (.var 3)) (.cons (.lit 1) .nil)))), (.int .i64 (.app 30 (.cons (.op .mul (.app 33 (.cons (.var 2) (.cons (.lit 18446744073709551616) .nil))) (.var 3)) (.cons (.lit 1) .nil)))), (.int .i64 (.app 30 (.cons (.op .mul (.app 33 (.cons (.var 2) (.cons (.lit 281474976710656) .nil))) (.var 3)) (.cons (.lit 65536) .nil)))), (.int .i64 (.app 30 (.cons (.op .mul (.app 33 (.cons (.var 2) (.cons (.lit 18446744073709551616) .nil))) (.var 3)) (.cons (.lit 65536) .nil)))), (.int .i64 (.app 30 (.cons (.op .mul (.app 33 (.cons (.var 2) (.cons (.lit 281474976710656) .nil))) (.var 3)) (.cons (.lit 4294967296) .nil)))), (.int .i64 (.app 30 (.cons (.op .mul (.app 33 (.cons (.var 2) (.cons (.lit 18446744073709551616) .nil))) (.var 3)) (.cons (.lit 4294967296) .nil)))), (.int .i64 (.op .rem (.op .add (.app 30 (.cons (.op .mul (.app 33 (.cons (.var 2) (.cons (.lit 281474976710656) .nil))) (.var 3)) (.cons (.lit 281474976710656) .nil))) (.op .mul (.app 30 (.cons (.var 2) (.cons (.lit 281474976710656) .nil))) (.app 30 (.cons (.var 3) (.cons (.lit 1) .nil))))) (.lit 65536))), (.int .i64 (.app 30 (.cons (.op .mul (.app 33 (.cons (.var 2) (.cons (.lit 18446744073709551616) .nil))) (.var 3)) (.cons (.lit 281474976710656) .nil)))), (.int .i64 (.op .rem (.op .add (.op .add (.op .quo (.op .add (.app 30 (.cons (.op .mul (.app 33 (.cons (.var 2) (.cons (.lit 281474976710656) .nil))) (.var 3)) (.cons (.lit 281474976710656) .nil))) (.op .mul (.app 30 (.cons (.var 2) (.cons (.lit 281474976710656) .nil))) (.app 30 (.cons (.var 3) (.cons (.lit 1) .nil))))) (.lit 65536)) (.app 30 (.cons (.op .mul (.app 33 (.cons (.var 2) (.cons (.lit 281474976710656) .nil))) (.var 3)) (.cons (.lit 18446744073709551616) .nil)))) (.op .mul (.app 30 (.cons (.var 2) (.cons (.lit 281474976710656) .nil))) (.app 30 (.cons (.var 3) (.cons (.lit 65536) .nil))))) (.lit 65536))), (.int .i64 (.app 30 (.cons (.op .mul (.app 33 (.cons (.var 2) (.cons (.lit 18446744073709551616) .nil))) (.var 3)) (.cons (.lit 18446744073709551616) .nil)))), (.int .i64 (.op .rem (.op .add (.op .add (.op .quo (.op .add (.op .add (.op .quo (.op .add (.app 30 (.cons (.op .mul (.app 33 (.cons (.var 2) (.cons (.lit 281474976710656) .nil))) (.var 3)) (.cons (.lit 281474976710656) .nil))) (.op .mul (.app 30 (.cons (.var 2) (.cons (.lit 281474976710656) .nil))) (.app 30 (.cons (.var 3) (.cons (.lit 1) .nil))))) (.lit 65536)) (.app 30 (.cons (.op .mul (.app 33 (.cons (.var 2) (.cons (.lit 281474976710656) .nil))) (.var 3)) (.cons (.lit 18446744073709551616) .nil)))) (.op .mul (.app 30 (.cons (.var 2) (.cons (.lit 281474976710656) .nil))) (.app 30 (.cons (.var 3) (.cons (.lit 65536) .nil))))) (.lit 65536)) (.app 30 (.cons (.op .mul (.app 33 (.cons (.var 2) (.cons (.lit 281474976710656) .nil))) (.var 3)) (.cons (.lit 1208925819614629174706176) .nil)))) (.op .mul (.app 30 (.cons (.var 2) (.cons (.lit 281474976710656) .nil))) (.app 30 (.cons (.var 3) (.cons (.lit 4294967296) .nil))))) (.lit 65536))), (.int .i64 (.app 30 (.cons (.op .mul (.app 33 (.cons (.var 2) (.cons (.lit 18446744073709551616) .nil))) (.var 3)) (.cons (.lit 1208925819614629174706176) .nil)))), (.int .i64 (.op .rem (.op .add (.op .add (.op .quo (.op .add (.op .add (.op .quo (.op .add (.op .add (.op .quo (.op .add (.app 30 (.cons (.op .mul (.app 33 (.cons (.var 2) (.cons (.lit 281474976710656) .nil))) (.var 3)) (.cons (.lit 281474976710656) .nil))) (.op .mul (.app 30 (.cons (.var 2) (.cons (.lit 281474976710656) .nil))) (.app 30 (.cons (.var 3) (.cons (.lit 1) .nil))))) (.lit 65536)) (.app 30 (.cons (.op .mul (.app 33 (.cons (.var 2) (.cons (.lit 281474976710656) .nil))) (.var 3)) (.cons (.lit 18446744073709551616) .nil)))) (.op .mul (.app 30 (.cons (.var 2) (.cons (.lit 281474976710656) .nil))) (.app 30 (.cons (.var 3) (.cons (.lit 65536) .nil))))) (.lit 65536)) (.app 30 (.cons (.op .mul (.app 33 (.cons (.var 2) (.cons (.lit 281474976710656) .nil))) (.var 3)) (.cons (.lit 1208925819614629174706176) .nil)))) (.op .mul (.app 30 (.cons (.var 2) (.cons (.lit 281474976710656) .nil))) (.app 30 (.cons (.var 3) (.cons (.lit 4294967296) .nil))))) (.lit 65536)) (.app 30 (.cons (.op .mul (.app 33 (.cons (.var 2) (.cons (.lit 281474976710656) .nil))) (.var 3)) (.cons (.lit 79228162514264337593543950336) .nil)))) (.op .mul (.app 30 (.cons (.var 2) (.cons (.lit 281474976710656) .nil))) (.app 30 (.cons (.var 3) (.cons (.lit 281474976710656) .nil))))) (.lit 65536))), (.int .i64 (.app 30 (.cons (.op .mul (.app 33 (.cons (.var 2) (.cons (.lit 18446744073709551616) .nil))) (.var 3)) (.cons (.lit 79228162514264337593543950336) .nil)))), (.int .i64 (.op .quo (.op .add (.op .add (.op .quo (.op .add (.op .add (.op .quo (.op .add (.op .add (.op .quo (.op .add (.app 30 (.cons (.op .mul (.app 33 (.cons (.var 2) (.cons (.lit 281474976710656) .nil))) (.var 3)) (.cons (.lit 281474976710656) .nil))) (.op .mul (.app 30 (.cons (.var 2) (.cons (.lit 281474976710656) .nil))) (.app 30 (.cons (.var 3) (.cons (.lit 1) .nil))))) (.lit 65536)) (.app 30 (.cons (.op .mul (.app 33 (.cons (.var 2) (.cons (.lit 281474976710656) .nil))) (.var 3)) (.cons (.lit 18446744073709551616) .nil)))) (.op .mul (.app 30 (.cons (.var 2) (.cons (.lit 281474976710656) .nil))) (.app 30 (.cons (.var 3) (.cons (.lit 65536) .nil))))) (.lit 65536)) (.app 30 (.cons (.op .mul (.app 33 (.cons (.var 2) (.cons (.lit 281474976710656) .nil))) (.var 3)) (.cons (.lit 1208925819614629174706176) .nil)))) (.op .mul (.app 30 (.cons (.var 2) (.cons (.lit 281474976710656) .nil))) (.app 30 (.cons (.var 3) (.cons (.lit 4294967296) .nil))))) (.lit 65536)) (.app 30 (.cons (.op .mul (.app 33 (.cons (.var 2) (.cons (.lit 281474976710656) .nil))) (.var 3)) (.cons (.lit 79228162514264337593543950336) .nil)))) (.op .mul (.app 30 (.cons (.var 2) (.cons (.lit 281474976710656) .nil))) (.app 30 (.cons (.var 3) (.cons (.lit 281474976710656) .nil))))) (.lit 65536))), (.int .i64 (.app 30 (.cons (.op .mul (.app 33 (.cons (.var 2) (.cons (.lit 18446744073709551616) .nil))) (.var 3)) (.cons (.lit 5192296858534827628530496329220096) .nil))))]) := by kernel_rfl
end Go.Proofs.YtnffpaenalccaaaDoor
set_option maxRecDepth 100000
namespace Go.Proofs.YtnffpaenalccaaaDoor
open Go Go.RowKit Sx Wi
def prod4_R (P : Program) (fs : List B) : Res SV := prod_run P 4 fs
def prod4_f0 : List B := []
theorem prod4_n0 : prod4_R Tryd.prog prod4_f0 = .ok (.agg []) := by kernel_rfl
end Go.Proofs.YtnffpaenalccaaaDoor
set_option maxRecDepth 100000
namespace Go.Proofs.YtnffpaenalccaaaDoor
open Go Go.RowKit Sx Wi
def prod5_R (P : Program) (fs : List B) : Res SV := prod_run P 5 fs
def prod5_f0 : List B := []
theorem prod5_n0 : prod5_R Tryd.prog prod5_f0 = .ok (.agg []) := by kernel_rfl
end Go.Proofs.YtnffpaenalccaaaDoor
set_option maxRecDepth 100000
namespace Go.Proofs.YtnffpaenalccaaaDoor
open Go Go.RowKit Sx Wi
def prod6_R (P : Program) (fs : List B) : Res SV := prod_run P 6 fs
def prod6_f0 : List B := []
theorem prod6_n0 : prod6_R Tryd.prog prod6_f0 = .ok (.agg []) := by kernel_rfl
end Go.Proofs.YtnffpaenalccaaaDoor
set_option maxRecDepth 100000
namespace Go.Proofs.YtnffpaenalccaaaDoor
open Go Go.RowKit Sx Wi
def prod7_R (P : Program) (fs : List B) : Res SV := prod_run P 7 fs
def prod7_f0 : List B := []
theorem prod7_n0 : prod7_R Tryd.prog prod7_f0 = .ok (.agg []) := by kernel_rfl
end Go.Proofs.YtnffpaenalccaaaDoor
set_option maxRecDepth 100000
namespace Go.Proofs.YtnffpaenalccaaaDoor
open Go Go.RowKit Sx Wi
def prod8_R (P : Program) (fs : List B) : Res SV := prod_run P 8 fs
def prod8_f0 : List B := []
theorem prod8_n0 : prod8_R Tryd.prog prod8_f0 = .ok (.agg []) := by kernel_rfl
end Go.Proofs.YtnffpaenalccaaaDoor
set_option maxRecDepth 100000
namespace Go.Proofs.YtnffpaenalccaaaDoor
open Go Go.RowKit Sx Wi
def prod9_R (P : Program) (fs : List B) : Res SV := prod_run P 9 fs
def prod9_f0 : List B := []
theorem prod9_n0 : prod9_R Tryd.prog prod9_f0 = .ok (.agg []) := by kernel_rfl
end Go.Proofs.YtnffpaenalccaaaDoor
set_option maxRecDepth 100000
namespace Go.Proofs.YtnffpaenalccaaaDoor
open Go Go.RowKit Sx Wi
def prod10_R (P : Program) (fs : List B) : Res SV := prod_run P 10 fs
def prod10_f0 : List B := []
theorem prod10_n0 : prod10_R Tryd.prog prod10_f0 = .ok (.agg []) := by kernel_rfl
end Go.Proofs.YtnffpaenalccaaaDoor
set_option maxRecDepth 100000
namespace Go.Proofs.YtnffpaenalccaaaDoor
open Go Go.RowKit Sx Wi
def prod11_R (P : Program) (fs : List B) : Res SV := prod_run P 11 fs
def prod11_f0 : List B := []
theorem prod11_n0 : prod11_R Tryd.prog prod11_f0 = .ok (.agg []) := by kernel_rfl
end Go.Proofs.YtnffpaenalccaaaDoor
set_option maxRecDepth 100000
namespace Go.Proofs.YtnffpaenalccaaaDoor
open Go Go.RowKit Sx Wi
def prod12_R (P : Program) (fs : List B) : Res SV := prod_run P 12 fs
def prod12_f0 : List B := []
theorem prod12_n0 : prod12_R Tryd.prog prod12_f0 = .ok (.tuple [(.int .i64 (.app 30 (.cons (.op .mul (.app 33 (.cons (.var 2) (.cons (.lit 18446744073709551616) .nil))) (.var 3)) (.cons (.lit 1) .nil)))), (.int .i64 (.app 30 (.cons (.op .mul (.var 2) (.var 3)) (.cons (.lit 1) .nil)))), (.int .i64 (.app 30 (.cons (.op .mul (.app 33 (.cons (.var 2) (.cons (.lit 18446744073709551616) .nil))) (.var 3)) (.cons (.lit 65536) .nil)))), (.int .i64 (.app 30 (.cons (.op .mul (.var 2) (.var 3)) (.cons (.lit 65536) .nil)))), (.int .i64 (.app 30 (.cons (.op .mul (.app 33 (.cons (.var 2) (.cons (.lit 18446744073709551616) .nil))) (.var 3)) (.cons (.lit 4294967296) .nil)))), (.int .i64 (.app 30 (.cons (.op .mul (.var 2) (.var 3)) (.cons (.lit 4294967296) .nil)))), (.int .i64 (.app 30 (.cons (.op .mul (.app 33 (.cons (.var 2) (.cons (.lit 18446744073709551616) .nil))) (.var 3)) (.cons (.lit 281474976710656) .nil)))), (.int .i64 (.app 30 (.cons (.op .mul (.var 2) (.var 3)) (.cons (.lit 281474976710656) .nil)))), (.int .i64 (.app 30 (.cons (.op .mul (.app 33 (.cons (.var 2) (.cons (.lit 18446744073709551616) .nil))) (.var 3)) (.cons (.lit 18446744073709551616) .nil)))), (.int .i64 (.app 30 (.cons (.op .mul (.var 2) (.var 3)) (.cons (.lit 18446744073709551616) .nil)))), (.int .i64 (.app 30 (.cons (.op .mul (.app 33 (.cons (.var 2) (.cons (.lit 18446744073709551616) .nil))) (.var 3)) (.cons (.lit 1208925819614629174706176) .nil)))), (.int .i64 (.app 30 (.cons (.op .mul (.var 2) (.var 3)) (.cons (.lit 1208925819614629174706176) .nil)))), (.int .i64 (.app 30 (.cons (.op .mul (.app 33 (.cons (.var 2) (.cons (.lit 18446744073709551616) .nil))) (.var 3)) (.cons (.lit 79228162514264337593543950336) .nil)))), (.int .i64 (.app 30 (.cons (.op .mul (.var 2) (.var 3)) (.cons (.lit 79228162514264337593543950336) .nil)))), (.int .i64 (.app 30 (.cons (.op .mul (.app 33 (.cons (.var 2) (.cons (.lit 18446744073709551616) .nil))) (.var 3)) (.cons (.lit 5192296858534827628530496329220096) .nil)))), (.int .i64 (.app 30 (.cons (.op .mul (.var 2) (.var 3)) (.cons (.lit 5192296858534827628530496329220096) .nil)))), (.int .i64 (.lit 0)), (.int .i64 (.app 30 (.cons (.op .mul (.var 2) (.var 3)) (.cons (.lit 340282366920938463463374607431768211456) .nil)))), (.int .i64 (.lit 0)), (.int .i64 (.app 30 (.cons (.op .mul (.var 2) (.var 3)) (.cons (.lit 22300745198530623141535718272648361505980416) .nil)))), (.int .i64 (.lit 0)), (.int .i64 (.app 30 (.cons (.op .mul (.var 2) (.var 3)) (.cons (.lit 1461501637330902918203684832716283019655932542976) .nil)))), (.int .i64 (.lit 0)), (.int .i64 (.app 30 (.cons (.op .mul (.var 2) (.var 3)) (.cons (.lit 95780971304118053647396689196894323976171195136475136) .nil))))]) := by kernel_rfl
end Go.Proofs.YtnffpaenalccaaaDoor
set_option maxRecDepth 100000
namespace Go.Proofs.YtnffpaenalccaaaDoor
open Go Go.RowKit Sx Wi
def prod_R (P : Program) (fs : List B) : Res SV := withCtx G GI [(0, 1), (0, 1), (0, 18446744073709551615), (0, 18446744073709551615)] fs (fun X => exFunL P X GB ctNil prod_lp 3000 49 [.agg (.bool (.cmp .ne (.var 0) (.lit 0)) :: digL4 (.var 2)), .agg (.bool (.cmp .ne (.var 1) (.lit 0)) :: digL4 (.var 3))])
def prod_f0 : List B := []
theorem prod_n0 : prod_R Tryd.prog prod_f0 = .ok (.agg ([(.bool (.and (.or (.cmp .eq (.var 0) (.lit 0)) (.cmp .eq (.var 1) (.lit 0))) (.or (.cmp .ne (.var 0) (.lit 0)) (.cmp .ne (.var 1) (.lit 0)))))] ++ digL (.op .mul (.var 2) (.var 3)))) := by kernel_rfl
end Go.Proofs.YtnffpaenalccaaaDoor
namespace Go.Proofs.YtnffpaenalccaaaDoor
open Go Go.RowKit Sx Nu Wi
set_option maxHeartbeats 8000000 in
set_option maxRecDepth 100000 in
theorem prod_w0 (x0 x1 x2 x3 : Int) (b0 : 0 ≤ x0 ∧ x0 ≤ 1) (b1 : 0 ≤ x1 ∧ x1 ≤ 1) (b2 : 0 ≤ x2 ∧ x2 ≤ 18446744073709551615) (b3 : 0 ≤ x3 ∧ x3 ≤ 18446744073709551615) : Sx.Way (prod_run Tryd.prog 0) G (rho [x0, x1, x2, x3]) (ChainP G (rho [x0, x1, x2, x3]) (rho [x0, x1, x2, x3]) 12 0) [] := by
  refine way_leaf prod0_n0 ?_
  refine ⟨by decide, ?_⟩; (simp only [AgreeSV]); simp only [nm, digL, dgE, dgP, dgP1, List.cons_append, List.nil_append, List.append_nil] at *; have hb := dg_all x3 b3.1 (by omega); have zb4 : dg x3 18446744073709551616 = 0 := (by unfold dg; omega); have zb5 : dg x3 1208925819614629174706176 = 0 := (by unfold dg; omega); have zb6 : dg x3 79228162514264337593543950336 = 0 := (by unfold dg; omega); have zb7 : dg x3 5192296858534827628530496329220096 = 0 := (by unfold dg; omega); have zb8 : dg x3 340282366920938463463374607431768211456 = 0 := (by unfold dg; omega); have zb9 : dg x3 22300745198530623141535718272648361505980416 = 0 := (by unfold dg; omega); have zb10 : dg x3 1461501637330902918203684832716283019655932542976 = 0 := (by unfold dg; omega); have zb11 : dg x3 95780971304118053647396689196894323976171195136475136 = 0 := (by unfold dg; omega); rw [zb4, zb5, zb6, zb7, zb8, zb9, zb10, zb11] at hb; simp only [Int.mul_zero, Int.add_zero] at hb; have db0 := dg_bd x3 1; generalize dg x3 1 = b0_ at *; have db1 := dg_bd x3 65536; generalize dg x3 65536 = b1_ at *; have db2 := dg_bd x3 4294967296; generalize dg x3 4294967296 = b2_ at *; have db3 := dg_bd x3 281474976710656; generalize dg x3 281474976710656 = b3_ at *; have lo : x2 % 65536 = x2 % 1 + 1 * dg x2 1 := (by have q := low_step x2 1 (by decide); simpa using q); have l0 := Int.emod_nonneg x2 (show (1 : Int) ≠ 0 by decide); have l1 := Int.emod_lt_of_pos x2 (show (0 : Int) < 1 by decide); have da := dg_bd x2 1; generalize dg x2 1 = a at *; generalize x2 % 1 = ll at *; have e1 : x2 % 65536 * x3 = ll * x3 + 1 * (a * x3) := (by rw [lo]; grind); have p0 : 0 ≤ ll * x3 := Int.mul_nonneg l0 b3.1; have p1 : ll * x3 ≤ 0 * 18446744073709551615 := Int.mul_le_mul (show ll ≤ 0 by omega) b3.2 b3.1 (by omega); have hax : a * x3 = a * b0_ + 65536 * (a * b1_) + 4294967296 * (a * b2_) + 281474976710656 * (a * b3_) := (by rw [hb]; grind); rw [e1]; generalize ll * x3 = pp at *; rw [hax] at *; have n0 := Int.mul_nonneg da.1 db0.1; have m0 := Int.mul_le_mul (show a ≤ 65535 by omega) (show b0_ ≤ 65535 by omega) db0.1 (show (0:Int) ≤ 65535 by omega); generalize a * b0_ = q0 at *; have n1 := Int.mul_nonneg da.1 db1.1; have m1 := Int.mul_le_mul (show a ≤ 65535 by omega) (show b1_ ≤ 65535 by omega) db1.1 (show (0:Int) ≤ 65535 by omega); generalize a * b1_ = q1 at *; have n2 := Int.mul_nonneg da.1 db2.1; have m2 := Int.mul_le_mul (show a ≤ 65535 by omega) (show b2_ ≤ 65535 by omega) db2.1 (show (0:Int) ≤ 65535 by omega); generalize a * b2_ = q2 at *; have n3 := Int.mul_nonneg da.1 db3.1; have m3 := Int.mul_le_mul (show a ≤ 65535 by omega) (show b3_ ≤ 65535 by omega) db3.1 (show (0:Int) ≤ 65535 by omega); generalize a * b3_ = q3 at *; have pz : pp = 0 := (by omega); have t0 := tdm q0 (by omega); generalize Int.tdiv q0 65536 = k0 at *; generalize Int.tmod q0 65536 = r0 at *; have t1 := tdm (k0 + q1) (by omega); generalize Int.tdiv (k0 + q1) 65536 = k1 at *; generalize Int.tmod (k0 + q1) 65536 = r1 at *; have t2 := tdm (k1 + q2) (by omega); generalize Int.tdiv (k1 + q2) 65536 = k2 at *; generalize Int.tmod (k1 + q2) 65536 = r2 at *; have t3 := tdm (k2 + q3) (by omega); generalize Int.tdiv (k2 + q3) 65536 = k3 at *; generalize Int.tmod (k2 + q3) 65536 = r3 at *; have top : k3 ≤ 65535 := (by omega); have es : pp + 1 * (q0 + 65536 * q1 + 4294967296 * q2 + 281474976710656 * q3) = r0 + 65536 * r1 + 4294967296 * r2 + 281474976710656 * r3 + 18446744073709551616 * k3 + 1208925819614629174706176 * 0 + 79228162514264337593543950336 * 0 + 5192296858534827628530496329220096 * 0 + 340282366920938463463374607431768211456 * 0 + 22300745198530623141535718272648361505980416 * 0 + 1461501637330902918203684832716283019655932542976 * 0 + 95780971304118053647396689196894323976171195136475136 * 0 := (by omega); rw [es]; obtain ⟨s0, s1, s2, s3, s4, s5, s6, s7, s8, s9, s10, s11⟩ := dg_of_sum r0 r1 r2 r3 k3 0 0 0 0 0 0 0 (by omega) (by omega) (by omega) (by omega) (by omega) (by omega) (by omega) (by omega) (by omega) (by omega) (by omega) (by omega); (repeat' refine And.intro ?_ ?_) <;> first | trivial | exact s0.symm | exact s1.symm | exact s2.symm | exact s3.symm | exact s4.symm | exact s5.symm | exact s6.symm | exact s7.symm | exact s8.symm | exact s9.symm | exact s10.symm | exact s11.symm | exact s0 | exact s1 | exact s2 | exact s3 | exact s4 | exact s5 | exact s6 | exact s7 | exact s8 | exact s9 | exact s10 | exact s11
set_option maxHeartbeats 8000000 in
set_option maxRecDepth 100000 in
theorem prod_w1 (x0 x1 x2 x3 : Int) (b0 : 0 ≤ x0 ∧ x0 ≤ 1) (b1 : 0 ≤ x1 ∧ x1 ≤ 1) (b2 : 0 ≤ x2 ∧ x2 ≤ 18446744073709551615) (b3 : 0 ≤ x3 ∧ x3 ≤ 18446744073709551615) : Sx.Way (prod_run Tryd.prog 1) G (rho [x0, x1, x2, x3]) (ChainP G (rho [x0, x1, x2, x3]) (rho [x0, x1, x2, x3]) 12 1) [] := by
  refine way_leaf prod1_n0 ?_
  refine ⟨by decide, ?_⟩; (simp only [AgreeSV]); simp only [nm, digL, dgE, dgP, dgP1, List.cons_append, List.nil_append, List.append_nil] at *; have hb := dg_all x3 b3.1 (by omega); have zb4 : dg x3 18446744073709551616 = 0 := (by unfold dg; omega); have zb5 : dg x3 1208925819614629174706176 = 0 := (by unfold dg; omega); have zb6 : dg x3 79228162514264337593543950336 = 0 := (by unfold dg; omega); have zb7 : dg x3 5192296858534827628530496329220096 = 0 := (by unfold dg; omega); have zb8 : dg x3 340282366920938463463374607431768211456 = 0 := (by unfold dg; omega); have zb9 : dg x3 22300745198530623141535718272648361505980416 = 0 := (by unfold dg; omega); have zb10 : dg x3 1461501637330902918203684832716283019655932542976 = 0 := (by unfold dg; omega); have zb11 : dg x3 95780971304118053647396689196894323976171195136475136 = 0 := (by unfold dg; omega); rw [zb4, zb5, zb6, zb7, zb8, zb9, zb10, zb11] at hb; simp only [Int.mul_zero, Int.add_zero] at hb; have db0 := dg_bd x3 1; generalize dg x3 1 = b0_ at *; have db1 := dg_bd x3 65536; generalize dg x3 65536 = b1_ at *; have db2 := dg_bd x3 4294967296; generalize dg x3 4294967296 = b2_ at *; have db3 := dg_bd x3 281474976710656; generalize dg x3 281474976710656 = b3_ at *; have lo : x2 % 4294967296 = x2 % 65536 + 65536 * dg x2 65536 := (by have q := low_step x2 65536 (by decide); simpa using q); have l0 := Int.emod_nonneg x2 (show (65536 : Int) ≠ 0 by decide); have l1 := Int.emod_lt_of_pos x2 (show (0 : Int) < 65536 by decide); have da := dg_bd x2 65536; generalize dg x2 65536 = a at *; generalize x2 % 65536 = ll at *; have e1 : x2 % 4294967296 * x3 = ll * x3 + 65536 * (a * x3) := (by rw [lo]; grind); have p0 : 0 ≤ ll * x3 := Int.mul_nonneg l0 b3.1; have p1 : ll * x3 ≤ 65535 * 18446744073709551615 := Int.mul_le_mul (show ll ≤ 65535 by omega) b3.2 b3.1 (by omega); have hax : a * x3 = a * b0_ + 65536 * (a * b1_) + 4294967296 * (a * b2_) + 281474976710656 * (a * b3_) := (by rw [hb]; grind); rw [e1]; generalize ll * x3 = pp at *; rw [hax] at *; have n0 := Int.mul_nonneg da.1 db0.1; have m0 := Int.mul_le_mul (show a ≤ 65535 by omega) (show b0_ ≤ 65535 by omega) db0.1 (show (0:Int) ≤ 65535 by omega); generalize a * b0_ = q0 at *; have n1 := Int.mul_nonneg da.1 db1.1; have m1 := Int.mul_le_mul (show a ≤ 65535 by omega) (show b1_ ≤ 65535 by omega) db1.1 (show (0:Int) ≤ 65535 by omega); generalize a * b1_ = q1 at *; have n2 := Int.mul_nonneg da.1 db2.1; have m2 := Int.mul_le_mul (show a ≤ 65535 by omega) (show b2_ ≤ 65535 by omega) db2.1 (show (0:Int) ≤ 65535 by omega); generalize a * b2_ = q2 at *; have n3 := Int.mul_nonneg da.1 db3.1; have m3 := Int.mul_le_mul (show a ≤ 65535 by omega) (show b3_ ≤ 65535 by omega) db3.1 (show (0:Int) ≤ 65535 by omega); generalize a * b3_ = q3 at *; have hp := dg_all pp p0 (by omega); have zp5 : dg pp 1208925819614629174706176 = 0 := (by unfold dg; omega); have zp6 : dg pp 79228162514264337593543950336 = 0 := (by unfold dg; omega); have zp7 : dg pp 5192296858534827628530496329220096 = 0 := (by unfold dg; omega); have zp8 : dg pp 340282366920938463463374607431768211456 = 0 := (by unfold dg; omega); have zp9 : dg pp 22300745198530623141535718272648361505980416 = 0 := (by unfold dg; omega); have zp10 : dg pp 1461501637330902918203684832716283019655932542976 = 0 := (by unfold dg; omega); have zp11 : dg pp 95780971304118053647396689196894323976171195136475136 = 0 := (by unfold dg; omega); rw [zp5, zp6, zp7, zp8, zp9, zp10, zp11] at hp; simp only [Int.mul_zero, Int.add_zero] at hp; have dp0 := dg_bd pp 1; generalize dg pp 1 = c0 at *; have dp1 := dg_bd pp 65536; generalize dg pp 65536 = c1 at *; have dp2 := dg_bd pp 4294967296; generalize dg pp 4294967296 = c2 at *; have dp3 := dg_bd pp 281474976710656; generalize dg pp 281474976710656 = c3 at *; have dp4 := dg_bd pp 18446744073709551616; generalize dg pp 18446744073709551616 = c4 at *; have t1 := tdm (c1 + q0) (by omega); generalize Int.tdiv (c1 + q0) 65536 = k1 at *; generalize Int.tmod (c1 + q0) 65536 = r1 at *; have t2 := tdm ((k1 + c2) + q1) (by omega); generalize Int.tdiv ((k1 + c2) + q1) 65536 = k2 at *; generalize Int.tmod ((k1 + c2) + q1) 65536 = r2 at *; have t3 := tdm ((k2 + c3) + q2) (by omega); generalize Int.tdiv ((k2 + c3) + q2) 65536 = k3 at *; generalize Int.tmod ((k2 + c3) + q2) 65536 = r3 at *; have t4 := tdm ((k3 + c4) + q3) (by omega); generalize Int.tdiv ((k3 + c4) + q3) 65536 = k4 at *; generalize Int.tmod ((k3 + c4) + q3) 65536 = r4 at *; have top : k4 ≤ 65535 := (by omega); have es : pp + 65536 * (q0 + 65536 * q1 + 4294967296 * q2 + 281474976710656 * q3) = c0 + 65536 * r1 + 4294967296 * r2 + 281474976710656 * r3 + 18446744073709551616 * r4 + 1208925819614629174706176 * k4 + 79228162514264337593543950336 * 0 + 5192296858534827628530496329220096 * 0 + 340282366920938463463374607431768211456 * 0 + 22300745198530623141535718272648361505980416 * 0 + 1461501637330902918203684832716283019655932542976 * 0 + 95780971304118053647396689196894323976171195136475136 * 0 := (by omega); rw [es]; obtain ⟨s0, s1, s2, s3, s4, s5, s6, s7, s8, s9, s10, s11⟩ := dg_of_sum c0 r1 r2 r3 r4 k4 0 0 0 0 0 0 (by omega) (by omega) (by omega) (by omega) (by omega) (by omega) (by omega) (by omega) (by omega) (by omega) (by omega) (by omega); (repeat' refine And.intro ?_ ?_) <;> first | trivial | exact s0.symm | exact s1.symm | exact s2.symm | exact s3.symm | exact s4.symm | exact s5.symm | exact s6.symm | exact s7.symm | exact s8.symm | exact s9.symm | exact s10.symm | exact s11.symm | exact s0 | exact s1 | exact s2 | exact s3 | exact s4 | exact s5 | exact s6 | exact s7 | exact s8 | exact s9 | exact s10 | exact s11
set_option maxHeartbeats 8000000 in
set_option maxRecDepth 100000 in
theorem prod_w2 (x0 x1 x2 x3 : Int) (b0 : 0 ≤ x0 ∧ x0 ≤ 1) (b1 : 0 ≤ x1 ∧ x1 ≤ 1) (b2 : 0 ≤ x2 ∧ x2 ≤ 18446744073709551615) (b3 : 0 ≤ x3 ∧ x3 ≤ 18446744073709551615) : Sx.Way (prod_run Tryd.prog 2) G (rho [x0, x1, x2, x3]) (ChainP G (rho [x0, x1, x2, x3]) (rho [x0, x1, x2, x3]) 12 2) [] := by
  refine way_leaf prod2_n0 ?_
  refine ⟨by decide, ?_⟩; (simp only [AgreeSV]); simp only [nm, digL, dgE, dgP, dgP1, List.cons_append, List.nil_append, List.append_nil] at *; have hb := dg_all x3 b3.1 (by omega); have zb4 : dg x3 18446744073709551616 = 0 := (by unfold dg; omega); have zb5 : dg x3 1208925819614629174706176 = 0 := (by unfold dg; omega); have zb6 : dg x3 79228162514264337593543950336 = 0 := (by unfold dg; omega); have zb7 : dg x3 5192296858534827628530496329220096 = 0 := (by unfold dg; omega); have zb8 : dg x3 340282366920938463463374607431768211456 = 0 := (by unfold dg; omega); have zb9 : dg x3 22300745198530623141535718272648361505980416 = 0 := (by unfold dg; omega); have zb10 : dg x3 1461501637330902918203684832716283019655932542976 = 0 := (by unfold dg; omega); have zb11 : dg x3 95780971304118053647396689196894323976171195136475136 = 0 := (by unfold dg; omega); rw [zb4, zb5, zb6, zb7, zb8, zb9, zb10, zb11] at hb; simp only [Int.mul_zero, Int.add_zero] at hb; have db0 := dg_bd x3 1; generalize dg x3 1 = b0_ at *; have db1 := dg_bd x3 65536; generalize dg x3 65536 = b1_ at *; have db2 := dg_bd x3 4294967296; generalize dg x3 4294967296 = b2_ at *; have db3 := dg_bd x3 281474976710656; generalize dg x3 281474976710656 = b3_ at *; have lo : x2 % 281474976710656 = x2 % 4294967296 + 4294967296 * dg x2 4294967296 := (by have q := low_step x2 4294967296 (by decide); simpa using q); have l0 := Int.emod_nonneg x2 (show (4294967296 : Int) ≠ 0 by decide); have l1 := Int.emod_lt_of_pos x2 (show (0 : Int) < 4294967296 by decide); have da := dg_bd x2 4294967296; generalize dg x2 4294967296 = a at *; generalize x2 % 4294967296 = ll at *; have e1 : x2 % 281474976710656 * x3 = ll * x3 + 4294967296 * (a * x3) := (by rw [lo]; grind); have p0 : 0 ≤ ll * x3 := Int.mul_nonneg l0 b3.1; have p1 : ll * x3 ≤ 4294967295 * 18446744073709551615 := Int.mul_le_mul (show ll ≤ 4294967295 by omega) b3.2 b3.1 (by omega); have hax : a * x3 = a * b0_ + 65536 * (a * b1_) + 4294967296 * (a * b2_) + 281474976710656 * (a * b3_) := (by rw [hb]; grind); rw [e1]; generalize ll * x3 = pp at *; rw [hax] at *; have n0 := Int.mul_nonneg da.1 db0.1; have m0 := Int.mul_le_mul (show a ≤ 65535 by omega) (show b0_ ≤ 65535 by omega) db0.1 (show (0:Int) ≤ 65535 by omega); generalize a * b0_ = q0 at *; have n1 := Int.mul_nonneg da.1 db1.1; have m1 := Int.mul_le_mul (show a ≤ 65535 by omega) (show b1_ ≤ 65535 by omega) db1.1 (show (0:Int) ≤ 65535 by omega); generalize a * b1_ = q1 at *; have n2 := Int.mul_nonneg da.1 db2.1; have m2 := Int.mul_le_mul (show a ≤ 65535 by omega) (show b2_ ≤ 65535 by omega) db2.1 (show (0:Int) ≤ 65535 by omega); generalize a * b2_ = q2 at *; have n3 := Int.mul_nonneg da.1 db3.1; have m3 := Int.mul_le_mul (show a ≤ 65535 by omega) (show b3_ ≤ 65535 by omega) db3.1 (show (0:Int) ≤ 65535 by omega); generalize a * b3_ = q3 at *; have hp := dg_all pp p0 (by omega); have zp6 : dg pp 79228162514264337593543950336 = 0 := (by unfold dg; omega); have zp7 : dg pp 5192296858534827628530496329220096 = 0 := (by unfold dg; omega); have zp8 : dg pp 340282366920938463463374607431768211456 = 0 := (by unfold dg; omega); have zp9 : dg pp 22300745198530623141535718272648361505980416 = 0 := (by unfold dg; omega); have zp10 : dg pp 1461501637330902918203684832716283019655932542976 = 0 := (by unfold dg; omega); have zp11 : dg pp 95780971304118053647396689196894323976171195136475136 = 0 := (by unfold dg; omega); rw [zp6, zp7, zp8, zp9, zp10, zp11] at hp; simp only [Int.mul_zero, Int.add_zero] at hp; have dp0 := dg_bd pp 1; generalize dg pp 1 = c0 at *; have dp1 := dg_bd pp 65536; generalize dg pp 65536 = c1 at *; have dp2 := dg_bd pp 4294967296; generalize dg pp 4294967296 = c2 at *; have dp3 := dg_bd pp 281474976710656; generalize dg pp 281474976710656 = c3 at *; have dp4 := dg_bd pp 18446744073709551616; generalize dg pp 18446744073709551616 = c4 at *; have dp5 := dg_bd pp 1208925819614629174706176; generalize dg pp 1208925819614629174706176 = c5 at *; have t2 := tdm (c2 + q0) (by omega); generalize Int.tdiv (c2 + q0) 65536 = k2 at *; generalize Int.tmod (c2 + q0) 65536 = r2 at *; have t3 := tdm ((k2 + c3) + q1) (by omega); generalize Int.tdiv ((k2 + c3) + q1) 65536 = k3 at *; generalize Int.tmod ((k2 + c3) + q1) 65536 = r3 at *; have t4 := tdm ((k3 + c4) + q2) (by omega); generalize Int.tdiv ((k3 + c4) + q2) 65536 = k4 at *; generalize Int.tmod ((k3 + c4) + q2) 65536 = r4 at *; have t5 := tdm ((k4 + c5) + q3) (by omega); generalize Int.tdiv ((k4 + c5) + q3) 65536 = k5 at *; generalize Int.tmod ((k4 + c5) + q3) 65536 = r5 at *; have top : k5 ≤ 65535 := (by omega); have es : pp + 4294967296 * (q0 + 65536 * q1 + 4294967296 * q2 + 281474976710656 * q3) = c0 + 65536 * c1 + 4294967296 * r2 + 281474976710656 * r3 + 18446744073709551616 * r4 + 1208925819614629174706176 * r5 + 79228162514264337593543950336 * k5 + 5192296858534827628530496329220096 * 0 + 340282366920938463463374607431768211456 * 0 + 22300745198530623141535718272648361505980416 * 0 + 1461501637330902918203684832716283019655932542976 * 0 + 95780971304118053647396689196894323976171195136475136 * 0 := (by omega); rw [es]; obtain ⟨s0, s1, s2, s3, s4, s5, s6, s7, s8, s9, s10, s11⟩ := dg_of_sum c0 c1 r2 r3 r4 r5 k5 0 0 0 0 0 (by omega) (by omega) (by omega) (by omega) (by omega) (by omega) (by omega) (by omega) (by omega) (by omega) (by omega) (by omega); (repeat' refine And.intro ?_ ?_) <;> first | trivial | exact s0.symm | exact s1.symm | exact s2.symm | exact s3.symm | exact s4.symm | exact s5.symm | exact s6.symm | exact s7.symm | exact s8.symm | exact s9.symm | exact s10.symm | exact s11.symm | exact s0 | exact s1 | exact s2 | exact s3 | exact s4 | exact s5 | exact s6 | exact s7 | exact s8 | exact s9 | exact s10 | exact s11
set_option maxHeartbeats 8000000 in
set_option maxRecDepth 100000 in
theorem prod_w3 (x0 x1 x2 x3 : Int) (b0 : 0 ≤ x0 ∧ x0 ≤ 1) (b1 : 0 ≤ x1 ∧ x1 ≤ 1) (b2 : 0 ≤ x2 ∧ x2 ≤ 18446744073709551615) (b3 : 0 ≤ x3 ∧ x3 ≤ 18446744073709551615) : Sx.Way (prod_run Tryd.prog 3) G (rho [x0, x1, x2, x3]) (ChainP G (rho [x0, x1, x2, x3]) (rho [x0, x1, x2, x3]) 12 3) [] := by
  refine way_leaf prod3_n0 ?_
  refine ⟨by decide, ?_⟩; (simp only [AgreeSV]); simp only [nm, digL, dgE, dgP, dgP1, List.cons_append, List.nil_append, List.append_nil] at *; have hb := dg_all x3 b3.1 (by omega); have zb4 : dg x3 18446744073709551616 = 0 := (by unfold dg; omega); have zb5 : dg x3 1208925819614629174706176 = 0 := (by unfold dg; omega); have zb6 : dg x3 79228162514264337593543950336 = 0 := (by unfold dg; omega); have zb7 : dg x3 5192296858534827628530496329220096 = 0 := (by unfold dg; omega); have zb8 : dg x3 340282366920938463463374607431768211456 = 0 := (by unfold dg; omega); have zb9 : dg x3 22300745198530623141535718272648361505980416 = 0 := (by unfold dg; omega); have zb10 : dg x3 1461501637330902918203684832716283019655932542976 = 0 := (by unfold dg; omega); have zb11 : dg x3 95780971304118053647396689196894323976171195136475136 = 0 := (by unfold dg; omega); rw [zb4, zb5, zb6, zb7, zb8, zb9, zb10, zb11] at hb; simp only [Int.mul_zero, Int.add_zero] at hb; have db0 := dg_bd x3 1; generalize dg x3 1 = b0_ at *; have db1 := dg_bd x3 65536; generalize dg x3 65536 = b1_ at *; have db2 := dg_bd x3 4294967296; generalize dg x3 4294967296 = b2_ at *; have db3 := dg_bd x3 281474976710656; generalize dg x3 281474976710656 = b3_ at *; have lo : x2 % 18446744073709551616 = x2 % 281474976710656 + 281474976710656 * dg x2 281474976710656 := (by have q := low_step x2 281474976710656 (by decide); simpa using q); have l0 := Int.emod_nonneg x2 (show (281474976710656 : Int) ≠ 0 by decide); have l1 := Int.emod_lt_of_pos x2 (show (0 : Int) < 281474976710656 by decide); have da := dg_bd x2 281474976710656; generalize dg x2 281474976710656 = a at *; generalize x2 % 281474976710656 = ll at *; have e1 : x2 % 18446744073709551616 * x3 = ll * x3 + 281474976710656 * (a * x3) := (by rw [lo]; grind); have p0 : 0 ≤ ll * x3 := Int.mul_nonneg l0 b3.1; have p1 : ll * x3 ≤ 281474976710655 * 18446744073709551615 := Int.mul_le_mul (show ll ≤ 281474976710655 by omega) b3.2 b3.1 (by omega); have hax : a * x3 = a * b0_ + 65536 * (a * b1_) + 4294967296 * (a * b2_) + 281474976710656 * (a * b3_) := (by rw [hb]; grind); rw [e1]; generalize ll * x3 = pp at *; rw [hax] at *; have n0 := Int.mul_nonneg da.1 db0.1; have m0 := Int.mul_le_mul (show a ≤ 65535 by omega) (show b0_ ≤ 65535 by omega) db0.1 (show (0:Int) ≤ 65535 by omega); generalize a * b0_ = q0 at *; have n1 := Int.mul_nonneg da.1 db1.1; have m1 := Int.mul_le_mul (show a ≤ 65535 by omega) (show b1_ ≤ 65535 by omega) db1.1 (show (0:Int) ≤ 65535 by omega); generalize a * b1_ = q1 at *; have n2 := Int.mul_nonneg da.1 db2.1; have m2 := Int.mul_le_mul (show a ≤ 65535 by omega) (show b2_ ≤ 65535 by omega) db2.1 (show (0:Int) ≤ 65535 by omega); generalize a * b2_ = q2 at *; have n3 := Int.mul_nonneg da.1 db3.1; have m3 := Int.mul_le_mul (show a ≤ 65535 by omega) (show b3_ ≤ 65535 by omega) db3.1 (show (0:Int) ≤ 65535 by omega); generalize a * b3_ = q3 at *; have hp := dg_all pp p0 (by omega); have zp7 : dg pp 5192296858534827628530496329220096 = 0 := (by unfold dg; omega); have zp8 : dg pp 340282366920938463463374607431768211456 = 0 := (by unfold dg; omega); have zp9 : dg pp 22300745198530623141535718272648361505980416 = 0 := (by unfold dg; omega); have zp10 : dg pp 1461501637330902918203684832716283019655932542976 = 0 := (by unfold dg; omega); have zp11 : dg pp 95780971304118053647396689196894323976171195136475136 = 0 := (by unfold dg; omega); rw [zp7, zp8, zp9, zp10, zp11] at hp; simp only [Int.mul_zero, Int.add_zero] at hp; have dp0 := dg_bd pp 1; generalize dg pp 1 = c0 at *; have dp1 := dg_bd pp 65536; generalize dg pp 65536 = c1 at *; have dp2 := dg_bd pp 4294967296; generalize dg pp 4294967296 = c2 at *; have dp3 := dg_bd pp 281474976710656; generalize dg pp 281474976710656 = c3 at *; have dp4 := dg_bd pp 18446744073709551616; generalize dg pp 18446744073709551616 = c4 at *; have dp5 := dg_bd pp 1208925819614629174706176; generalize dg pp 1208925819614629174706176 = c5 at *; have dp6 := dg_bd pp 79228162514264337593543950336; generalize dg pp 79228162514264337593543950336 = c6 at *; have t3 := tdm (c3 + q0) (by omega); generalize Int.tdiv (c3 + q0) 65536 = k3 at *; generalize Int.tmod (c3 + q0) 65536 = r3 at *; have t4 := tdm ((k3 + c4) + q1) (by omega); generalize Int.tdiv ((k3 + c4) + q1) 65536 = k4 at *; generalize Int.tmod ((k3 + c4) + q1) 65536 = r4 at *; have t5 := tdm ((k4 + c5) + q2) (by omega); generalize Int.tdiv ((k4 + c5) + q2) 65536 = k5 at *; generalize Int.tmod ((k4 + c5) + q2) 65536 = r5 at *; have t6 := tdm ((k5 + c6) + q3) (by omega); generalize Int.tdiv ((k5 + c6) + q3) 65536 = k6 at *; generalize Int.tmod ((k5 + c6) + q3) 65536 = r6 at *; have top : k6 ≤ 65535 := (by omega); have es : pp + 281474976710656 * (q0 + 65536 * q1 + 4294967296 * q2 + 281474976710656 * q3) = c0 + 65536 * c1 + 4294967296 * c2 + 281474976710656 * r3 + 18446744073709551616 * r4 + 1208925819614629174706176 * r5 + 79228162514264337593543950336 * r6 + 5192296858534827628530496329220096 * k6 + 340282366920938463463374607431768211456 * 0 + 22300745198530623141535718272648361505980416 * 0 + 1461501637330902918203684832716283019655932542976 * 0 + 95780971304118053647396689196894323976171195136475136 * 0 := (by omega); rw [es]; obtain ⟨s0, s1, s2, s3, s4, s5, s6, s7, s8, s9, s10, s11⟩ := dg_of_sum c0 c1 c2 r3 r4 r5 r6 k6 0 0 0 0 (by omega) (by omega) (by omega) (by omega) (by omega) (by omega) (by omega) (by omega) (by omega) (by omega) (by omega) (by omega); (repeat' refine And.intro ?_ ?_) <;> first | trivial | exact s0.symm | exact s1.symm | exact s2.symm | exact s3.symm | exact s4.symm | exact s5.symm | exact s6.symm | exact s7.symm | exact s8.symm | exact s9.symm | exact s10.symm | exact s11.symm | exact s0 | exact s1 | exact s2 | exact s3 | exact s4 | exact s5 | exact s6 | exact s7 | exact s8 | exact s9 | exact s10 | exact s11
set_option maxHeartbeats 8000000 in
set_option maxRecDepth 100000 in
theorem prod_w4 (x0 x1 x2 x3 : Int) (b0 : 0 ≤ x0 ∧ x0 ≤ 1) (b1 : 0 ≤ x1 ∧ x1 ≤ 1) (b2 : 0 ≤ x2 ∧ x2 ≤ 18446744073709551615) (b3 : 0 ≤ x3 ∧ x3 ≤ 18446744073709551615) : Sx.Way (prod_run Tryd.prog 4) G (rho [x0, x1, x2, x3]) (ChainP G (rho [x0, x1, x2, x3]) (rho [x0, x1, x2, x3]) 12 4) [] := by
  refine way_leaf prod4_n0 ?_
  refine ⟨by decide, ?_⟩; (simp only [AgreeSV])
set_option maxHeartbeats 8000000 in
set_option maxRecDepth 100000 in
theorem prod_w5 (x0 x1 x2 x3 : Int) (b0 : 0 ≤ x0 ∧ x0 ≤ 1) (b1 : 0 ≤ x1 ∧ x1 ≤ 1) (b2 : 0 ≤ x2 ∧ x2 ≤ 18446744073709551615) (b3 : 0 ≤ x3 ∧ x3 ≤ 18446744073709551615) : Sx.Way (prod_run Tryd.prog 5) G (rho [x0, x1, x2, x3]) (ChainP G (rho [x0, x1, x2, x3]) (rho [x0, x1, x2, x3]) 12 5) [] := by
  refine way_leaf prod5_n0 ?_
  refine ⟨by decide, ?_⟩; (simp only [AgreeSV])
set_option maxHeartbeats 8000000 in
set_option maxRecDepth 100000 in
theorem prod_w6 (x0 x1 x2 x3 : Int) (b0 : 0 ≤ x0 ∧ x0 ≤ 1) (b1 : 0 ≤ x1 ∧ x1 ≤ 1) (b2 : 0 ≤ x2 ∧ x2 ≤ 18446744073709551615) (b3 : 0 ≤ x3 ∧ x3 ≤ 18446744073709551615) : Sx.Way (prod_run Tryd.prog 6) G (rho [x0, x1, x2, x3]) (ChainP G (rho [x0, x1, x2, x3]) (rho [x0, x1, x2, x3]) 12 6) [] := by
  refine way_leaf prod6_n0 ?_
  refine ⟨by decide, ?_⟩; (simp only [AgreeSV])
set_option maxHeartbeats 8000000 in
set_option maxRecDepth 100000 in
theorem prod_w7 (x0 x1 x2 x3 : Int) (b0 : 0 ≤ x0 ∧ x0 ≤ 1) (b1 : 0 ≤ x1 ∧ x1 ≤ 1) (b2 : 0 ≤ x2 ∧ x2 ≤ 18446744073709551615) (b3 : 0 ≤ x3 ∧ x3 ≤ 18446744073709551615) : Sx.Way (prod_run Tryd.prog 7) G (rho [x0, x1, x2, x3]) (ChainP G (rho [x0, x1, x2, x3]) (rho [x0, x1, x2, x3]) 12 7) [] := by
  refine way_leaf prod7_n0 ?_
  refine ⟨by decide, ?_⟩; (simp only [AgreeSV])
set_option maxHeartbeats 8000000 in
set_option maxRecDepth 100000 in
theorem prod_w8 (x0 x1 x2 x3 : Int) (b0 : 0 ≤ x0 ∧ x0 ≤ 1) (b1 : 0 ≤ x1 ∧ x1 ≤ 1) (b2 : 0 ≤ x2 ∧ x2 ≤ 18446744073709551615) (b3 : 0 ≤ x3 ∧ x3 ≤ 18446744073709551615) : Sx.Way (prod_run Tryd.prog 8) G (rho [x0, x1, x2, x3]) (ChainP G (rho [x0, x1, x2, x3]) (rho [x0, x1, x2, x3]) 12 8) [] := by
  refine way_leaf prod8_n0 ?_
  refine ⟨by decide, ?_⟩; (simp only [AgreeSV])
set_option maxHeartbeats 8000000 in
set_option maxRecDepth 100000 in
theorem prod_w9 (x0 x1 x2 x3 : Int) (b0 : 0 ≤ x0 ∧ x0 ≤ 1) (b1 : 0 ≤ x1 ∧ x1 ≤ 1) (b2 : 0 ≤ x2 ∧ x2 ≤ 18446744073709551615) (b3 : 0 ≤ x3 ∧ x3 ≤ 18446744073709551615) : Sx.Way (prod_run Tryd.prog 9) G (rho [x0, x1, x2, x3]) (ChainP G (rho [x0, x1, x2, x3]) (rho [x0, x1, x2, x3]) 12 9) [] := by
  refine way_leaf prod9_n0 ?_
  refine ⟨by decide, ?_⟩; (simp only [AgreeSV])
set_option maxHeartbeats 8000000 in
set_option maxRecDepth 100000 in
theorem prod_w10 (x0 x1 x2 x3 : Int) (b0 : 0 ≤ x0 ∧ x0 ≤ 1) (b1 : 0 ≤ x1 ∧ x1 ≤ 1) (b2 : 0 ≤ x2 ∧ x2 ≤ 18446744073709551615) (b3 : 0 ≤ x3 ∧ x3 ≤ 18446744073709551615) : Sx.Way (prod_run Tryd.prog 10) G (rho [x0, x1, x2, x3]) (ChainP G (rho [x0, x1, x2, x3]) (rho [x0, x1, x2, x3]) 12 10) [] := by
  refine way_leaf prod10_n0 ?_
  refine ⟨by decide, ?_⟩; (simp only [AgreeSV])
set_option maxHeartbeats 8000000 in
set_option maxRecDepth 100000 in
theorem prod_w11 (x0 x1 x2 x3 : Int) (b0 : 0 ≤ x0 ∧ x0 ≤ 1) (b1 : 0 ≤ x1 ∧ x1 ≤ 1) (b2 : 0 ≤ x2 ∧ x2 ≤ 18446744073709551615) (b3 : 0 ≤ x3 ∧ x3 ≤ 18446744073709551615) : Sx.Way (prod_run Tryd.prog 11) G (rho [x0, x1, x2, x3]) (ChainP G (rho [x0, x1, x2, x3]) (rho [x0, x1, x2, x3]) 12 11) [] := by
  refine way_leaf prod11_n0 ?_
  refine ⟨by decide, ?_⟩; (simp only [AgreeSV])
set_option maxHeartbeats 8000000 in
set_option maxRecDepth 100000 in
theorem prod_w12 (x0 x1 x2 x3 : Int) (b0 : 0 ≤ x0 ∧ x0 ≤ 1) (b1 : 0 ≤ x1 ∧ x1 ≤ 1) (b2 : 0 ≤ x2 ∧ x2 ≤ 18446744073709551615) (b3 : 0 ≤ x3 ∧ x3 ≤ 18446744073709551615) : Sx.Way (prod_run Tryd.prog 12) G (rho [x0, x1, x2, x3]) (ChainP G (rho [x0, x1, x2, x3]) (rho [x0, x1, x2, x3]) 12 12) [] := by
  refine way_leaf prod12_n0 ?_
  have e : x2 % 18446744073709551616 = x2 := Int.emod_eq_of_lt b2.1 (by omega); skip; (simp only [ChainP, AgreeSV]); simp only [nm, digL, dgE, dgP, dgP1, List.cons_append, List.nil_append, List.append_nil] at *; rw [e]; have p0 := Int.mul_nonneg b2.1 b3.1; have p1 := Int.mul_le_mul b2.2 b3.2 b3.1 (show (0 : Int) ≤ 18446744073709551615 by decide); generalize x2 * x3 = pp at *; (repeat' refine And.intro ?_ ?_) <;> first | trivial | rfl | (unfold dg; omega)
theorem prod_way (x0 x1 x2 x3 : Int) (b0 : 0 ≤ x0 ∧ x0 ≤ 1) (b1 : 0 ≤ x1 ∧ x1 ≤ 1) (b2 : 0 ≤ x2 ∧ x2 ≤ 18446744073709551615) (b3 : 0 ≤ x3 ∧ x3 ≤ 18446744073709551615) : ∀ k, k ≤ 12 → Sx.Way (prod_run Tryd.prog k) G (rho [x0, x1, x2, x3]) (ChainP G (rho [x0, x1, x2, x3]) (rho [x0, x1, x2, x3]) 12 k) []
  | 0, _ => prod_w0 x0 x1 x2 x3 b0 b1 b2 b3
  | 1, _ => prod_w1 x0 x1 x2 x3 b0 b1 b2 b3
  | 2, _ => prod_w2 x0 x1 x2 x3 b0 b1 b2 b3
  | 3, _ => prod_w3 x0 x1 x2 x3 b0 b1 b2 b3
  | 4, _ => prod_w4 x0 x1 x2 x3 b0 b1 b2 b3
  | 5, _ => prod_w5 x0 x1 x2 x3 b0 b1 b2 b3
  | 6, _ => prod_w6 x0 x1 x2 x3 b0 b1 b2 b3
  | 7, _ => prod_w7 x0 x1 x2 x3 b0 b1 b2 b3
  | 8, _ => prod_w8 x0 x1 x2 x3 b0 b1 b2 b3
  | 9, _ => prod_w9 x0 x1 x2 x3 b0 b1 b2 b3
  | 10, _ => prod_w10 x0 x1 x2 x3 b0 b1 b2 b3
  | 11, _ => prod_w11 x0 x1 x2 x3 b0 b1 b2 b3
  | 12, _ => prod_w12 x0 x1 x2 x3 b0 b1 b2 b3
  | k + 13, h => by omega
theorem prod_len : ∀ k, (prod_S k).heap.length = 5
  | 0 => rfl
  | 1 => rfl
  | 2 => rfl
  | 3 => rfl
  | 4 => rfl
  | 5 => rfl
  | 6 => rfl
  | 7 => rfl
  | 8 => rfl
  | 9 => rfl
  | 10 => rfl
  | 11 => rfl
  | 12 => rfl
  | _ + 13 => rfl
theorem prod_rounds (x0 x1 x2 x3 : Int) (b0 : 0 ≤ x0 ∧ x0 ≤ 1) (b1 : 0 ≤ x1 ∧ x1 ≤ 1) (b2 : 0 ≤ x2 ∧ x2 ≤ 18446744073709551615) (b3 : 0 ≤ x3 ∧ x3 ≤ 18446744073709551615) : ∀ X : Ctx, X.G = G → ∀ α a w Q, RelSt X (rho [x0, x1, x2, x3]) (glOf GB) α prod_S0 a w → (∀ a' w' α', RelSt X (rho [x0, x1, x2, x3]) (glOf GB) α' prod_T a' w' → Ext prod_S0.heap.length prod_S0.heap prod_T.heap α α' w w' → Q (.exit 0) a' w') → Code.rounds Tryd.prog (prod_B Tryd.prog) Q 13 a w :=
  chain_rounds (ρ := rho [x0, x1, x2, x3]) (ρT := rho [x0, x1, x2, x3]) (S := prod_S) (run := prod_run Tryd.prog) (fun _ _ => rfl) (by kernel_rfl) rfl gi_ok (within_get ⟨b0, b1, b2, b3, trivial⟩) (fun _ _ => rfl) (fun X hX hG => ctNil_ok) (fun X hX hG => lpOk_lpNil) (prod_way x0 x1 x2 x3 b0 b1 b2 b3) (fun k => ⟨by rw [prod_len, prod_len]; exact Nat.le_refl _, by rw [prod_len]; decide⟩) 12 0 rfl
set_option maxRecDepth 100000 in
theorem product_any (x0 x1 x2 x3 : Int) (b0 : 0 ≤ x0 ∧ x0 ≤ 1) (b1 : 0 ≤ x1 ∧ x1 ≤ 1) (b2 : 0 ≤ x2 ∧ x2 ≤ 18446744073709551615) (b3 : 0 ≤ x3 ∧ x3 ≤ 18446744073709551615) (w : World) (hw : WOk GB w) : Known Tryd.prog 49 ∧ Calls Tryd.prog 49 #[.agg (.bool (!decide (x0 = 0)) :: SV.denL G (rho [x0, x1, x2, x3]) (digL4 (.var 2))).toArray, .agg (.bool (!decide (x1 = 0)) :: SV.denL G (rho [x0, x1, x2, x3]) (digL4 (.var 3))).toArray] w (fun e w' => e = .returned (.agg (.bool ((!decide (x0 = 0)) != (!decide (x1 = 0))) :: digV (x2 * x3)).toArray) ∧ Below w.heap.size w w') := by
  refine calls_eq (way_callsL (ρ := (rho [x0, x1, x2, x3])) (lp := prod_lp) (run := fun fs => withCtx G GI [(0, 1), (0, 1), (0, 18446744073709551615), (0, 18446744073709551615)] fs (fun X => exFunL Tryd.prog X GB ctNil prod_lp 3000 49 [.agg (.bool (.cmp .ne (.var 0) (.lit 0)) :: digL4 (.var 2)), .agg (.bool (.cmp .ne (.var 1) (.lit 0)) :: digL4 (.var 3))])) (fun _ => rfl) (by kernel_rfl) (within_get ⟨b0, b1, b2, b3, trivial⟩) gi_ok (fun X hX hG => ctNil_ok) (fun X hX hG fn c hf hc => ?_) rfl rfl (gbApart_one _) ?_ w hw)
  · refine lpOk_one (b := prod_B Tryd.prog) (by rw [← bodyOf_eq hf hc]; exact prod_loops) (lpAt_rounds hG (fun _ _ => rfl) trivial (prod_rounds x0 x1 x2 x3 b0 b1 b2 b3))
  · skip
    refine way_leaf prod_n0 ?_
    refine ⟨rfl, ?_⟩; simp only [nm, digL, dgE, dgP, dgP1, List.cons_append, List.nil_append, List.append_nil] at *; (cases decide (x0 = 0) <;> cases decide (x1 = 0) <;> rfl)
def inB (N : E) (lo hi : Int) : B := .and (.cmp .le (.lit lo) N) (.cmp .le N (.lit hi))
theorem inB_den {ρ : Nat → Int} {N : E} {lo hi : Int} (h : (inB N lo hi).den G ρ = true) : lo ≤ N.den G ρ ∧ N.den G ρ ≤ hi := by
  simp only [inB, B.den, Bool.and_eq_true] at h
  exact ⟨of_decide_eq_true h.1, of_decide_eq_true h.2⟩
def plus_entry : Entry := fun X args =>
  match args with
  | [.agg a, .agg b] => (recog X a).bind fun N => (recog X b).bind fun M => (Res.test X (inB N 0 6277101735386680763835789423207666416102355444464034512895)).bind fun p => (Res.test X (inB M 0 6277101735386680763835789423207666416102355444464034512895)).bind fun q => if p && q then .ok (.agg (digL (E.mkOp .add N M))) else .fail 220
  | _ => .fail 201
set_option maxRecDepth 100000 in
theorem plus_ok {X : Ctx} {ρ : Nat → Int} (hX : X.Ok ρ) (hG : X.G = G) : EntryOk Tryd.prog X ρ GB 46 plus_entry := by
  obtain ⟨XG, XI, XV, XF⟩ := X
  simp only at hG
  subst hG
  intro args s h α w vals hv hw
  unfold plus_entry at h
  split at h
  · rename_i a b
    replace h := Res.bind_ok h; obtain ⟨N, hN, h⟩ := h
    replace h := Res.bind_ok h; obtain ⟨M, hM, h⟩ := h
    replace h := Res.bind_ok h; obtain ⟨p, hp, h⟩ := h
    replace h := Res.bind_ok h; obtain ⟨q, hq, h⟩ := h
    have hp := Res.test_ok hX hp
    have hq := Res.test_ok hX hq
    split at h
    · rename_i hg
      simp only [Bool.and_eq_true] at hg
      obtain ⟨rfl, rfl⟩ := hg
      have gN := inB_den hp
      have gM := inB_den hq
      obtain ⟨u1, d1⟩ := recog_ok hX hN
      obtain ⟨u2, d2⟩ := recog_ok hX hM
      have e : SV.denL G ρ [.agg a, .agg b] = [.agg (digV (N.den G ρ)).toArray, .agg (digV (M.den G ρ)).toArray] := by simp only [SV.denL, SV.den, d1, d2]
      have ub : SV.ubdL 0 [.agg a, .agg b] = true := by simp only [SV.ubdL, SV.ubd, u1, u2, Bool.and_self]
      cases h
      refine entry_calls hv ub rfl ?_
      have e2 : SV.den G ρ (.agg (digL (E.mkOp .add N M))) = .agg (digV (N.den G ρ + M.den G ρ)).toArray := by simp only [SV.den, digL_den, E.mkOp_den, iop_add]
      rw [e, e2]
      exact plus_any _ _ gN gM w hw
    · cases h
  · cases h
def compare_entry : Entry := fun X args =>
  match args with
  | [.agg a, .agg b] => (recog X a).bind fun N => (recog X b).bind fun M => (Res.test X (inB N 0 6277101735386680763835789423207666416102355444464034512895)).bind fun p => (Res.test X (inB M 0 6277101735386680763835789423207666416102355444464034512895)).bind fun q => if p && q then (Res.test X (.cmp .lt N M)).bind fun t => if t then .ok (.int .i64 (.lit (-1))) else (Res.test X (.cmp .lt M N)).bind fun t => if t then .ok (.int .i64 (.lit 1)) else .ok (.int .i64 (.lit 0)) else .fail 220
  | _ => .fail 201
set_option maxRecDepth 100000 in
theorem compare_ok {X : Ctx} {ρ : Nat → Int} (hX : X.Ok ρ) (hG : X.G = G) : EntryOk Tryd.prog X ρ GB 47 compare_entry := by
  obtain ⟨XG, XI, XV, XF⟩ := X
  simp only at hG
  subst hG
  intro args s h α w vals hv hw
  unfold compare_entry at h
  split at h
  · rename_i a b
    replace h := Res.bind_ok h; obtain ⟨N, hN, h⟩ := h
    replace h := Res.bind_ok h; obtain ⟨M, hM, h⟩ := h
    replace h := Res.bind_ok h; obtain ⟨p, hp, h⟩ := h
    replace h := Res.bind_ok h; obtain ⟨q, hq, h⟩ := h
    have hp := Res.test_ok hX hp
    have hq := Res.test_ok hX hq
    split at h
    · rename_i hg
      simp only [Bool.and_eq_true] at hg
      obtain ⟨rfl, rfl⟩ := hg
      have gN := inB_den hp
      have gM := inB_den hq
      obtain ⟨u1, d1⟩ := recog_ok hX hN
      obtain ⟨u2, d2⟩ := recog_ok hX hM
      have e : SV.denL G ρ [.agg a, .agg b] = [.agg (digV (N.den G ρ)).toArray, .agg (digV (M.den G ρ)).toArray] := by simp only [SV.denL, SV.den, d1, d2]
      have ub : SV.ubdL 0 [.agg a, .agg b] = true := by simp only [SV.ubdL, SV.ubd, u1, u2, Bool.and_self]
      replace h := Res.bind_ok h; obtain ⟨t, ht, h⟩ := h
      have ht := Res.test_ok hX ht
      have k := compare_any _ _ gN gM w hw
      cases t with
      | true =>
        cases h
        simp only [B.den, cop_lt, decide_eq_true_eq] at ht
        refine entry_calls hv ub rfl ?_
        rw [e]
        rw [if_pos ht] at k
        exact k
      | false =>
        simp only [Bool.false_eq_true, if_false] at h
        simp only [B.den, cop_lt, decide_eq_false_iff_not] at ht
        rw [if_neg ht] at k
        replace h := Res.bind_ok h; obtain ⟨t, ht, h⟩ := h
        have ht := Res.test_ok hX ht
        cases t with
        | true =>
          cases h
          simp only [B.den, cop_lt, decide_eq_true_eq] at ht
          refine entry_calls hv ub rfl ?_
          rw [e]
          rw [if_pos ht] at k
          exact k
        | false =>
          cases h
          simp only [B.den, cop_lt, decide_eq_false_iff_not] at ht
          refine entry_calls hv ub rfl ?_
          rw [e]
          rw [if_neg ht] at k
          exact k
    · cases h
  · cases h
def less_entry : Entry := fun X args =>
  match args with
  | [.agg a, .agg b] => (recog X a).bind fun N => (recog X b).bind fun M => (Res.test X (inB N 0 6277101735386680763835789423207666416102355444464034512895)).bind fun p => (Res.test X (inB M 0 6277101735386680763835789423207666416102355444464034512895)).bind fun q => if p && q then (Res.test X (.cmp .le M N)).bind fun t => if t then .ok (.agg (digL (E.mkOp .sub N M))) else .fail 221 else .fail 220
  | _ => .fail 201
set_option maxRecDepth 100000 in
theorem less_ok {X : Ctx} {ρ : Nat → Int} (hX : X.Ok ρ) (hG : X.G = G) : EntryOk Tryd.prog X ρ GB 48 less_entry := by
  obtain ⟨XG, XI, XV, XF⟩ := X
  simp only at hG
  subst hG
  intro args s h α w vals hv hw
  unfold less_entry at h
  split at h
  · rename_i a b
    replace h := Res.bind_ok h; obtain ⟨N, hN, h⟩ := h
    replace h := Res.bind_ok h; obtain ⟨M, hM, h⟩ := h
    replace h := Res.bind_ok h; obtain ⟨p, hp, h⟩ := h
    replace h := Res.bind_ok h; obtain ⟨q, hq, h⟩ := h
    have hp := Res.test_ok hX hp
    have hq := Res.test_ok hX hq
    split at h
    · rename_i hg
      simp only [Bool.and_eq_true] at hg
      obtain ⟨rfl, rfl⟩ := hg
      have gN := inB_den hp
      have gM := inB_den hq
      obtain ⟨u1, d1⟩ := recog_ok hX hN
      obtain ⟨u2, d2⟩ := recog_ok hX hM
      have e : SV.denL G ρ [.agg a, .agg b] = [.agg (digV (N.den G ρ)).toArray, .agg (digV (M.den G ρ)).toArray] := by simp only [SV.denL, SV.den, d1, d2]
      have ub : SV.ubdL 0 [.agg a, .agg b] = true := by simp only [SV.ubdL, SV.ubd, u1, u2, Bool.and_self]
      replace h := Res.bind_ok h; obtain ⟨t, ht, h⟩ := h
      have ht := Res.test_ok hX ht
      cases t with
      | true =>
        cases h
        simp only [B.den, cop_le, decide_eq_true_eq] at ht
        refine entry_calls hv ub rfl ?_
        have e2 : SV.den G ρ (.agg (digL (E.mkOp .sub N M))) = .agg (digV (N.den G ρ - M.den G ρ)).toArray := by simp only [SV.den, digL_den, E.mkOp_den, iop_sub]
        rw [e, e2]
        exact less_any _ _ gN gM ht w hw
      | false => cases h
    · cases h
  · cases h
def zero_entry : Entry := fun X args =>
  match args with
  | [.agg (.bool b :: a)] => (recog X a).bind fun N => (Res.test X (inB N 0 6277101735386680763835789423207666416102355444464034512895)).bind fun p => if p then .ok (.bool (.cmp .eq N (.lit 0))) else .fail 222
  | _ => .fail 201
set_option maxRecDepth 100000 in
theorem zero_ok {X : Ctx} {ρ : Nat → Int} (hX : X.Ok ρ) (hG : X.G = G) : EntryOk Tryd.prog X ρ GB 64 zero_entry := by
  obtain ⟨XG, XI, XV, XF⟩ := X
  simp only at hG
  subst hG
  intro args s h α w vals hv hw
  unfold zero_entry at h
  split at h
  · rename_i b a
    replace h := Res.bind_ok h; obtain ⟨N, hN, h⟩ := h
    replace h := Res.bind_ok h; obtain ⟨p, hp, h⟩ := h
    have hp := Res.test_ok hX hp
    split at h
    · rename_i hg
      subst hg
      have gN := inB_den hp
      obtain ⟨u1, d1⟩ := recog_ok hX hN
      cases h
      have k := zero_any (N.den G ρ) (if b.den G ρ = true then 1 else 0) gN (by split <;> decide) w hw
      have eb : (!decide ((if b.den G ρ = true then (1 : Int) else 0) = 0)) = b.den G ρ := by cases b.den G ρ <;> rfl
      rw [eb] at k
      refine entry_calls hv (by simp only [SV.ubdL, SV.ubd, u1, Bool.and_self]) rfl ?_
      have e : SV.denL G ρ [.agg (.bool b :: a)] = [.agg (.bool (b.den G ρ) :: digV (N.den G ρ)).toArray] := by simp only [SV.denL, SV.den, d1]
      rw [e]
      exact k
    · cases h
  · cases h
def product_entry : Entry := fun X args =>
  match args with
  | [.agg (.bool b :: a), .agg (.bool c :: d)] => (recog X a).bind fun N => (recog X d).bind fun M => (Res.test X (inB N 0 18446744073709551615)).bind fun p => (Res.test X (inB M 0 18446744073709551615)).bind fun q => if p && q then (Res.test X b).bind fun s => (Res.test X c).bind fun t => .ok (.agg (.bool (.lit (s != t)) :: digL (E.mkOp .mul N M))) else .fail 223
  | _ => .fail 201
set_option maxRecDepth 100000 in
theorem product_ok {X : Ctx} {ρ : Nat → Int} (hX : X.Ok ρ) (hG : X.G = G) : EntryOk Tryd.prog X ρ GB 49 product_entry := by
  obtain ⟨XG, XI, XV, XF⟩ := X
  simp only at hG
  subst hG
  intro args s h α w vals hv hw
  unfold product_entry at h
  split at h
  · rename_i b a c d
    replace h := Res.bind_ok h; obtain ⟨N, hN, h⟩ := h
    replace h := Res.bind_ok h; obtain ⟨M, hM, h⟩ := h
    replace h := Res.bind_ok h; obtain ⟨p, hp, h⟩ := h
    replace h := Res.bind_ok h; obtain ⟨q, hq, h⟩ := h
    have hp := Res.test_ok hX hp
    have hq := Res.test_ok hX hq
    split at h
    · rename_i hg
      simp only [Bool.and_eq_true] at hg
      obtain ⟨rfl, rfl⟩ := hg
      have gN := inB_den hp
      have gM := inB_den hq
      obtain ⟨u1, d1⟩ := recog_ok hX hN
      obtain ⟨u2, d2⟩ := recog_ok hX hM
      replace h := Res.bind_ok h; obtain ⟨s1, hs1, h⟩ := h
      replace h := Res.bind_ok h; obtain ⟨s2, hs2, h⟩ := h
      have hs1 := Res.test_ok hX hs1
      have hs2 := Res.test_ok hX hs2
      cases h
      have k := product_any (if s1 = true then 1 else 0) (if s2 = true then 1 else 0) (N.den G ρ) (M.den G ρ) (by split <;> decide) (by split <;> decide) gN gM w hw
      have eb : ∀ b : Bool, (!decide ((if b = true then (1 : Int) else 0) = 0)) = b := by intro b; cases b <;> rfl
      rw [eb, eb] at k
      have q1 := digL4_den (ρ := rho [(if s1 = true then 1 else 0), (if s2 = true then 1 else 0), N.den G ρ, M.den G ρ]) (.var 2) gN.1 (Int.lt_of_le_of_lt gN.2 (by decide))
      have q2 := digL4_den (ρ := rho [(if s1 = true then 1 else 0), (if s2 = true then 1 else 0), N.den G ρ, M.den G ρ]) (.var 3) gM.1 (Int.lt_of_le_of_lt gM.2 (by decide))
      rw [q1, q2] at k
      refine entry_calls hv (by simp only [SV.ubdL, SV.ubd, u1, u2, Bool.and_self]) rfl ?_
      have e : SV.denL G ρ [.agg (.bool b :: a), .agg (.bool c :: d)] = [.agg (.bool s1 :: digV (N.den G ρ)).toArray, .agg (.bool s2 :: digV (M.den G ρ)).toArray] := by simp only [SV.denL, SV.den, d1, d2]; rw [show b.den G ρ = s1 from hs1, show c.den G ρ = s2 from hs2]
      have e2 : SV.den G ρ (.agg (.bool (.lit (s1 != s2)) :: digL (E.mkOp .mul N M))) = .agg (.bool (s1 != s2) :: digV (N.den G ρ * M.den G ρ)).toArray := by simp only [SV.den, SV.denL, digL_den, E.mkOp_den, iop_mul, B.den]
      rw [e, e2]
      exact k
    · cases h
  · cases h
def ct_plus : Contracts := ctCons 46 plus_entry ctNil
theorem ct_plus_ok {X : Ctx} {ρ : Nat → Int} (hX : X.Ok ρ) (hG : X.G = G) : CtOk Tryd.prog X ρ GB ct_plus := ctCons_ok (plus_ok hX hG) (ctNil_ok)
def ct_compare : Contracts := ctCons 47 compare_entry ct_plus
theorem ct_compare_ok {X : Ctx} {ρ : Nat → Int} (hX : X.Ok ρ) (hG : X.G = G) : CtOk Tryd.prog X ρ GB ct_compare := ctCons_ok (compare_ok hX hG) (ct_plus_ok hX hG)
def ct_less : Contracts := ctCons 48 less_entry ct_compare
theorem ct_less_ok {X : Ctx} {ρ : Nat → Int} (hX : X.Ok ρ) (hG : X.G = G) : CtOk Tryd.prog X ρ GB ct_less := ctCons_ok (less_ok hX hG) (ct_compare_ok hX hG)
def ct_zero : Contracts := ctCons 64 zero_entry ct_less
theorem ct_zero_ok {X : Ctx} {ρ : Nat → Int} (hX : X.Ok ρ) (hG : X.G = G) : CtOk Tryd.prog X ρ GB ct_zero := ctCons_ok (zero_ok hX hG) (ct_less_ok hX hG)
def ct_product : Contracts := ctCons 49 product_entry ct_zero
theorem ct_product_ok {X : Ctx} {ρ : Nat → Int} (hX : X.Ok ρ) (hG : X.G = G) : CtOk Tryd.prog X ρ GB ct_product := ctCons_ok (product_ok hX hG) (ct_zero_ok hX hG)
end Go.Proofs.YtnffpaenalccaaaDoor
