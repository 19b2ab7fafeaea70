/- Machinery of this seat's proofs (TKO, RQ, LS3, LS4, LKO, LKP): lemmas that the last text uses; no statement of its own. -/
import Derived.Test.YtmckdfempgoekaaFwF
import Derived.Test.YtmckdfempgoekaaRows
import Derived.Test.YtmckdfempgoekaaFwE
section
set_option linter.unusedVariables false
set_option linter.unusedSimpArgs false
set_option linter.unusedSectionVars false
namespace Go.Fw
set_option linter.unusedVariables false
set_option linter.unusedSimpArgs false
set_option maxRecDepth 100000
set_option maxHeartbeats 4000000
open Go.Proofs
noncomputable def xBase : Ext' := xOr (xNum 161 160 158) (xClone Try.prog)
abbrev zz0 : Pc := [((.bin .gtr (.int .i64) (.var 5 []) (.var 1 [])), true), ((.and (.bin .gtr (.int .i64) (.var 5 []) (.var 1 [])) (.not (.or (.bin .lss (.int .i64) (.var 8 [0]) (.var 10 [0])) (.and (.bin .eql (.int .i64) (.var 8 [0]) (.var 10 [0])) (.bin .lss (.int .i64) (.var 8 [1]) (.var 10 [1])))))), false), ((.bin .lss (.int .i64) (.var 3 []) (.var 2 [])), true)]
abbrev zz1 : Tm := (.bin .eql (.int .i64) (.bin .sub (.int .i64) (.var 2 []) (.var 1 [])) (.li 1))
abbrev zz2 : Tm := (.conv .i64 (.bin .shr (.int .u64) (.conv .u64 (.bin .add (.int .i64) (.var 1 []) (.var 3 []))) (.li 1)))
abbrev zz4 : Tm := (.bin .eql (.int .i64) (.bin .sub (.int .i64) (.var 3 []) (.var 2 [])) (.li 1))
abbrev zz6 : Tm := (.bin .lss (.int .i64) (.var 3 []) (.rlen (.var 0 [])))
abbrev zz3 : Pc := [((.bin .gtr (.int .i64) (.var 9 []) (.var 6 [])), true), ((.var 5 [1]), true), (zz6, true)]
abbrev zz7 : SV := (.agg [(.fn 64 [] [(.op 3 1 (.li 0) 0)]), (.fn 123 [] [(.os 2 2 0 (.rlen (.var 0 []))), (.c (.at 1 24))])])
abbrev zz8 : Tm := (.ls [0, 1, 2, 3, 4, 5, 6, 7, 8, 9, 10, 11, 12, 13, 14, 15, 16, 17, 18, 19, 20, 21, 22, 23, 24, 25, 26, 27, 28, 29, 30, 31, 32, 33, 34, 35, 36, 37, 38, 39, 40, 41, 42, 43, 44, 45, 46, 47, 48, 49, 50, 51, 52, 53, 54, 55, 56, 57, 58, 59, 60, 61, 62, 63, 64, 65, 66, 67, 68, 69, 70, 71, 72, 73, 74, 75, 76, 77, 78, 79, 80, 81, 82, 83, 84, 85, 86, 87, 88, 89, 90, 91, 92, 93, 94, 95, 96, 97, 98, 99, 100, 101, 102, 103, 104, 105, 106, 107, 108, 109, 110, 111, 112, 113, 114, 115, 116, 117, 118, 119, 120, 121, 122, 123, 124, 125, 126, 127])
abbrev zz10 : Tm := (.bin .sub (.int .i64) (.bin .add (.int .i64) zz2 (.var 2 [])) (.var 8 []))
abbrev zz11 : Pc := [((.bin .lss (.int .i64) (.var 5 []) (.bin .sub (.int .i64) (.var 4 []) (.li 1))), true), (zz1, true)]
abbrev zz12 : Tm := (.conv .i64 (.bin .shr (.int .u64) (.conv .u64 (.bin .add (.int .i64) (.var 8 []) (.var 9 []))) (.li 1)))
abbrev zz13 : List SV := [(.os 2 2 0 (.rlen (.var 0 [])))]
abbrev zz14 : Pc := [((.bin .gtr (.int .i64) (.var 7 []) (.var 6 [])), true), (zz4, true), (zz1, false)]
abbrev zz15 : Tm := (.bin .gtr (.int .i64) (.rlen (.var 0 [])) (.li 400))
abbrev zz16 : Pc := [((.bin .lss (.int .i64) (.var 8 []) (.var 9 [])), true), (zz4, false), (zz1, false)]
abbrev zz17 : Pc := [((.bin .lss (.int .i64) (.var 6 []) (.var 7 [])), true), (zz4, true), (zz1, false)]
abbrev zz18 : Pc := [((.bin .lss (.int .i64) (.var 4 []) (.var 5 [])), true), (zz1, true)]
abbrev zz19 : Tm := (.conv .i32 (.bin .add (.int .i64) (.li 48) (.bin .rem (.int .i64) (.var 2 []) (.li 10))))
abbrev zz20 : List Lo := [(.mk [((.bin .lss (.int .i64) (.var 7 []) (.var 1 [])), true)] 11 3 [(.sc (.int .i64) (.li 0)), (.sc (.int .i64) (.bin .mul (.int .i64) (.li 2) (.var 7 []))), (.sc .sl (.var 10 []))] [((.not (.bin .leq (.int .i64) (.var 12 []) (.var 1 []))), 1, [(.sc (.int .i64) (.var 11 [])), (.sc (.int .i64) (.var 12 [])), (.sc .sl (.var 13 []))]), ((.lb true), 0, [(.sc (.int .i64) (.var 12 [])), (.sc (.int .i64) (.bin .add (.int .i64) (.var 12 []) (.bin .mul (.int .i64) (.li 2) (.var 7 [])))), (.sc .sl (.var 14 []))])] [([((.bin .leq (.int .i64) (.var 12 []) (.var 1 [])), true), ((.bin .lss (.int .i64) (.var 7 []) (.var 1 [])), true)], (.callw 125 [zz7, (.sc (.int .i64) (.var 11 [])), (.sc (.int .i64) (.bin .add (.int .i64) (.var 11 []) (.var 7 []))), (.sc (.int .i64) (.var 12 []))] [(3, (.rows 1 [zz13])), (2, (.rowsT 2 (.var 13 [])))] 4 (.tup []) [(3, (.rows 1 [zz13])), (2, (.rowsT 2 (.var 14 [])))]))] [] [3] [])]
abbrev zz21 : Tm := (.conv .i64 (.bin .shr (.int .u64) (.conv .u64 (.bin .add (.int .i64) (.var 4 []) (.var 5 []))) (.li 1)))
abbrev zz22 : Tm := (.conv .i64 (.bin .shr (.int .u64) (.conv .u64 (.bin .add (.int .i64) (.var 6 []) (.var 7 []))) (.li 1)))
abbrev zz23 : Pc := [((.bin .lss (.int .i64) (.var 4 []) (.var 3 [])), true)]
abbrev zz24 : Tm := (.and (.bin .gtr (.int .i64) (.slen (.var 0 [0])) (.li 1)) (.bin .eql (.int .u8) (.byte (.var 0 [0]) (.li 0)) (.li 48)))
abbrev zz25 : List SV := [(.sc .str (.var 7 [0])), (.sc (.int .i64) (.var 7 [1]))]
abbrev zz26 : Pc := [((.bin .gtr (.int .i64) (.var 5 []) (.var 1 [])), true), ((.bin .lss (.int .i64) (.var 3 []) (.var 2 [])), true)]
abbrev zz27 : List SV := [(.sc .str (.var 12 [0])), (.sc (.int .i64) (.var 12 [1]))]
abbrev zz28 : List SV := [(.sc .str (.var 6 [0])), (.sc (.int .i64) (.var 6 [1]))]
abbrev zz29 : SV := (.sc (.int .i64) (.bin .add (.int .i64) (.var 3 []) (.li 1)))
abbrev zz30 : Tm := (.bin .lss (.int .i64) (.var 0 []) (.li 0))
abbrev zz31 : List SV := [(.sc .str (.var 10 [0])), (.sc (.int .i64) (.var 10 [1]))]
abbrev zz33 : Pc := [((.var 5 [1]), true), (zz6, true)]
abbrev zz34 : List SV := [(.sc .str (.var 8 [0])), (.sc (.int .i64) (.var 8 [1]))]
abbrev zz35 : Tm := (.bin .gtr (.int .i64) (.slen (.var 0 [0])) (.li 4))
abbrev zz36 : List (Tm × Nat × List SV) := [((.not (.bin .lss (.int .i64) (.var 8 []) (.var 9 []))), 1, [(.sc (.int .i64) (.var 8 []))]), ((.lb true), 0, [(.sc (.int .i64) (.ite (.or (.bin .lss (.int .i64) (.var 11 [0]) (.var 13 [0])) (.and (.bin .eql (.int .i64) (.var 11 [0]) (.var 13 [0])) (.bin .lss (.int .i64) (.var 11 [1]) (.var 13 [1])))) (.var 8 []) (.bin .add (.int .i64) zz12 (.li 1)))), (.sc (.int .i64) (.ite (.or (.bin .lss (.int .i64) (.var 11 [0]) (.var 13 [0])) (.and (.bin .eql (.int .i64) (.var 11 [0]) (.var 13 [0])) (.bin .lss (.int .i64) (.var 11 [1]) (.var 13 [1])))) zz12 (.var 9 [])))])]
abbrev zz37 : Tm := (.bin .leq (.int .i64) (.li 0) (.rlen (.var 0 [])))
abbrev zz38 : List (Tm × Nat × List SV) := [((.not (.bin .lss (.int .i64) (.var 6 []) (.var 7 []))), 1, [(.sc (.int .i64) (.var 6 []))]), ((.lb true), 0, [(.sc (.int .i64) (.ite (.or (.bin .lss (.int .i64) (.var 9 [0]) (.var 11 [0])) (.and (.bin .eql (.int .i64) (.var 9 [0]) (.var 11 [0])) (.bin .lss (.int .i64) (.var 9 [1]) (.var 11 [1])))) (.var 6 []) (.bin .add (.int .i64) zz22 (.li 1)))), (.sc (.int .i64) (.ite (.or (.bin .lss (.int .i64) (.var 9 [0]) (.var 11 [0])) (.and (.bin .eql (.int .i64) (.var 9 [0]) (.var 11 [0])) (.bin .lss (.int .i64) (.var 9 [1]) (.var 11 [1])))) zz22 (.var 7 [])))])]
abbrev zz39 : List (Tm × Nat × List SV) := [((.not (.bin .lss (.int .i64) (.var 4 []) (.var 5 []))), 1, [(.sc (.int .i64) (.var 4 []))]), ((.lb true), 0, [(.sc (.int .i64) (.ite (.or (.bin .lss (.int .i64) (.var 7 [0]) (.var 9 [0])) (.and (.bin .eql (.int .i64) (.var 7 [0]) (.var 9 [0])) (.bin .lss (.int .i64) (.var 7 [1]) (.var 9 [1])))) (.bin .add (.int .i64) zz21 (.li 1)) (.var 4 []))), (.sc (.int .i64) (.ite (.or (.bin .lss (.int .i64) (.var 7 [0]) (.var 9 [0])) (.and (.bin .eql (.int .i64) (.var 7 [0]) (.var 9 [0])) (.bin .lss (.int .i64) (.var 7 [1]) (.var 9 [1])))) (.var 5 []) zz21))])]
abbrev zz41 : Tm := (.bin .gtr (.int .i64) (.var 0 [1]) (.li 0))
abbrev zz42 : Tm := (.bin .eql (.int .i64) (.rlen (.var 0 [])) (.li 0))
abbrev zz43 : List (Tm × Nat × List SV) := [((.not (.bin .lss (.int .i64) (.var 7 []) (.var 1 []))), 1, [(.sc .sl (.var 10 []))]), ((.bin .lss (.int .i64) (.bin .add (.int .i64) (.var 11 []) (.var 7 [])) (.var 1 [])), 0, [(.sc (.int .i64) (.bin .mul (.int .i64) (.var 7 []) (.li 2))), (.sc (.int .i64) (.var 11 [])), (.sc (.int .i64) (.var 12 [])), (.sc .sl (.var 14 []))]), ((.lb true), 0, [(.sc (.int .i64) (.bin .mul (.int .i64) (.var 7 []) (.li 2))), (.sc (.int .i64) (.var 11 [])), (.sc (.int .i64) (.var 12 [])), (.sc .sl (.var 13 []))])]
abbrev zz44 : Tm := (.bin .sub (.int .i64) (.bin .sub (.int .i64) (.bin .add (.int .i64) zz2 (.var 2 [])) (.li 1)) zz12)
abbrev zz45 : List SV := [(.sc .str (.var 4 [0])), (.sc (.int .i64) (.var 4 [1]))]
abbrev zz47 : SV := (.sc (.int .i64) (.var 2 []))
abbrev zz48 : SV := (.sc (.int .i64) (.var 3 []))
abbrev zz50 : List (Nat × SB) := [(3, (.rows 1 [zz13])), (2, (.rowsT 2 (.var 0 [])))]
abbrev zz51 : List (Tm × Nat × List SV) := [((.not (.bin .neq (.int .i64) (.var 4 []) (.var 5 []))), 1, [(.sc (.int .i64) (.var 4 [])), (.sc .sl (.var 6 []))]), ((.bin .gtr (.int .i64) (.var 4 []) (.var 5 [])), 0, [(.sc (.int .i64) (.bin .sub (.int .i64) (.var 4 []) (.var 5 []))), (.sc (.int .i64) (.var 5 [])), (.sc .sl (.var 7 []))]), ((.lb true), 0, [(.sc (.int .i64) (.var 4 [])), (.sc (.int .i64) (.bin .sub (.int .i64) (.var 5 []) (.var 4 []))), (.sc .sl (.var 9 []))])]
abbrev zz52 : Tm := (.bin .eql (.int .i64) (.rlen (.var 0 [])) (.li 1))
abbrev zz54 : List SV := [(.sc .str (.var 9 [0])), (.sc (.int .i64) (.var 9 [1]))]
abbrev zz56 : Tm := (.bin .lss (.int .i64) (.var 4 []) (.rlen (.var 0 [])))
abbrev zz57 : Pc × Side := ([((.bin .gtr (.int .i64) (.var 4 []) (.var 5 [])), true), ((.bin .neq (.int .i64) (.var 4 []) (.var 5 [])), true)], (.callw 154 [zz7, (.sc (.int .i64) (.bin .sub (.int .i64) (.var 2 []) (.var 4 []))), zz47, (.sc (.int .i64) (.var 5 []))] [(3, (.rows 1 [zz13])), (2, (.rowsT 2 (.var 6 [])))] 4 (.tup []) [(3, (.rows 1 [zz13])), (2, (.rowsT 2 (.var 7 [])))]))
abbrev zz58 : Tm := (.bin .add (.int .i64) (.var 5 []) (.li 1))
abbrev zz59 : Tm := (.bin .sub (.int .i64) (.var 7 []) (.li 1))
abbrev zz60 : SV := (.sc (.int .i64) (.var 1 []))
abbrev zz53 : List (Pc × Side) := [([((.bin .lss (.int .i64) (.bin .add (.int .i64) (.var 11 []) (.var 7 [])) (.var 1 [])), true), ((.bin .lss (.int .i64) (.var 7 []) (.var 1 [])), true)], (.callw 125 [zz7, (.sc (.int .i64) (.var 11 [])), (.sc (.int .i64) (.bin .add (.int .i64) (.var 11 []) (.var 7 []))), zz60] [(3, (.rows 1 [zz13])), (2, (.rowsT 2 (.var 13 [])))] 4 (.tup []) [(3, (.rows 1 [zz13])), (2, (.rowsT 2 (.var 14 [])))]))]
abbrev zz61 : Pc := [((.bin .geq (.int .i64) (.var 2 []) (.li 10)), true), (zz30, false)]
abbrev zz62 : Pc × Side := ([(zz6, true)], (.call 67 [(.agg zz45)] (.tup [(.sc (.int .i64) (.var 5 [0])), (.sc .bool (.var 5 [1]))])))
abbrev zz63 : Tm := (.bin .add (.int .i64) (.var 1 []) (.var 4 []))
abbrev zz64 : Tm := (.bin .add (.int .i64) (.var 2 []) (.var 4 []))
abbrev zz65 : Tm := (.bin .neq (.int .i64) (.rlen (.var 0 [])) (.rlen (.var 1 [])))
abbrev zz66 : Pc := [((.bin .lss (.int .i64) (.var 6 []) (.rlen (.var 3 []))), true), ((.var 5 []), true), (zz15, false)]
abbrev zz67 : SV := (.sc (.int .i64) (.bin .add (.int .i64) (.var 4 []) (.li 1)))
abbrev zz69 : Tm := (.bin .sub (.int .i64) (.var 5 []) (.li 1))
abbrev zz70 : Tm := (.conv .i32 (.bin .add (.int .i64) (.li 48) (.var 2 [])))
abbrev zz71 : List (Tm × Nat × List SV) := [((.not (.bin .geq (.int .i64) (.var 2 []) (.li 10))), 1, [zz47, (.sc .str (.var 3 []))]), ((.lb true), 0, [(.sc (.int .i64) (.bin .quo (.int .i64) (.var 2 []) (.li 10))), (.sc .str (.bin .add .str (.ssub zz8 zz19 (.bin .add (.int .i64) zz19 (.li 1))) (.var 3 [])))])]
abbrev zz72 : Pc := [((.var 5 [1]), false), ((.bin .leq (.int .i64) (.var 6 [1]) (.li 0)), true), (zz6, true)]
abbrev zz73 : Tm := (.bin .lss (.int .i64) zz10 (.var 3 []))
abbrev zz74 : Tm := (.bin .sub (.int .i64) (.var 9 []) (.li 1))
abbrev zz75 : Tm := (.bin .lss (.int .i64) (.neg (.int .i64) (.var 0 [])) (.li 0))
abbrev zz76 : List (Tm × Nat × List SV) := [((.not zz6), 1, [(.sc .bool (.var 2 []))]), ((.not (.and (.bin .eql .str (.var 4 [0]) (.var 5 [0])) (.bin .eql (.int .i64) (.var 4 [1]) (.var 5 [1])))), 2, [(.sc .bool (.lb false))]), ((.lb true), 0, [(.sc .bool (.var 2 [])), zz29])]
abbrev zz77 : List (Tm × Nat × List SV) := [((.not (.bin .lss (.int .i64) (.var 3 []) (.li 1024))), 1, [zz60, (.sc .bool (.var 2 []))]), ((.bin .eql .str (.var 4 []) (.var 0 [0])), 2, [zz48, (.sc .bool (.lb true))]), ((.lb true), 0, [zz60, (.sc .bool (.var 2 [])), zz29])]
abbrev zz78 : Tm := (.and (.var 8 []) (.and (.bin .eql .str (.var 9 [0]) (.ls [55, 55])) (.bin .eql (.int .i64) (.var 9 [1]) (.li 0))))
abbrev zz80 : List (Pc × Side) := [([((.bin .leq (.int .i64) (.var 3 []) (.var 1 [])), true)], (.callw 124 [zz7, zz47, zz48] [(3, (.rows 1 [zz13])), (2, (.rowsT 2 (.var 4 [])))] 4 (.tup []) [(3, (.rows 1 [zz13])), (2, (.rowsT 2 (.var 5 [])))]))]
abbrev zz81 : List (Tm × Nat × List SV) := [((.not (.bin .leq (.int .i64) (.var 3 []) (.var 1 []))), 1, [zz47, zz48, (.sc .sl (.var 4 []))]), ((.lb true), 0, [zz48, (.sc (.int .i64) (.bin .add (.int .i64) (.var 3 []) (.li 20))), (.sc .sl (.var 5 []))])]
abbrev zz82 : Tm := (.bin .gtr (.int .i64) (.var 5 [1]) (.li 0))
abbrev zz83 : Tm := (.bin .lss (.int .i64) zz2 zz10)
abbrev zz84 : Tm := (.bin .leq (.int .i64) (.li 0) (.var 6 []))
abbrev zz85 : List (Tm × Nat × List SV) := [((.not zz6), 1, [(.sc .sl (.var 2 []))]), ((.and (.not (.var 5 [1])) (.bin .leq (.int .i64) (.var 6 [1]) (.li 0))), 0, [(.sc .sl (.var 8 [])), zz29]), ((.lb true), 0, [(.sc .sl (.var 2 [])), zz29])]
abbrev zz86 : List (Tm × Nat × List SV) := [((.not (.bin .lss (.int .i64) (.var 6 []) (.rlen (.var 3 [])))), 1, [(.sc .sl (.var 7 []))]), ((.lb true), 0, [(.sc (.int .i64) (.bin .add (.int .i64) (.var 6 []) (.li 1))), (.sc .sl (.var 8 []))])]
abbrev zz87 : List (Tm × Nat × List SV) := [((.not zz6), 1, [(.sc .sl (.var 1 []))]), ((.not (.var 5 [1])), 0, [(.sc .sl (.var 1 [])), (.sc .sl (.var 2 [])), zz29]), ((.lb true), 0, [(.sc .sl (.var 13 [])), (.sc .sl (.var 14 [])), zz29])]
abbrev zz88 : List SV := [(.sc (.int .i64) (.var 11 [0])), (.sc (.int .i64) (.var 11 [1]))]
abbrev zz89 : List (Tm × Nat × List SV) := [((.not (.bin .lss (.int .i64) (.var 5 []) (.bin .sub (.int .i64) (.var 4 []) (.li 1)))), 1, [(.sc .sl (.var 6 []))]), ((.lb true), 0, [(.sc (.int .i64) zz58), (.sc .sl (.var 10 []))])]
abbrev zz90 : List SV := [(.sc (.int .i64) (.var 9 [0])), (.sc (.int .i64) (.var 9 [1]))]
abbrev zz91 : Pc := [((.bin .gtr (.int .i64) (.var 6 []) (.li 0)), true), ((.var 5 [1]), true), (zz6, true)]
abbrev zz92 : List SV := [zz7, (.sc (.int .i64) zz2), (.sc (.int .i64) zz10), zz48]
abbrev zz93 : Pc := [((.var 5 []), true), (zz15, false)]
abbrev zz94 : List SV := [(.sc .str (.var 5 [0])), (.sc (.int .i64) (.var 5 [1]))]
abbrev zz95 : Pc × Side := ([(zz52, false), (zz42, false)], (.callw 95 [zz7, (.sc (.int .i64) (.rlen (.var 0 [])))] zz50 4 (.tup []) [(3, (.rows 1 [zz13])), (2, (.rowsT 2 (.var 1 [])))]))
abbrev zz96 : List SV := [(.sc .str (.ls [55, 55])), (.sc (.int .i64) (.li 0))]
abbrev zz97 : List (Tm × Nat × List SV) := [((.not (.bin .gtr (.int .i64) (.var 7 []) (.var 6 []))), 1, [(.sc .sl (.var 8 []))]), ((.lb true), 0, [(.sc (.int .i64) zz59), (.sc .sl (.var 12 []))])]
abbrev zz98 : List SV := [(.sc (.int .i64) (.li 0)), (.sc .bool (.lb false))]
abbrev zz32 : List (Tm × Nat × List SV) := [((.not (.bin .lss (.int .i64) (.var 4 []) (.slen (.var 0 [0])))), 1, [zz60, (.sc .bool (.var 2 [])), zz48]), ((.or (.bin .lss (.int .u8) (.byte (.var 0 [0]) (.var 4 [])) (.li 48)) (.bin .gtr (.int .u8) (.byte (.var 0 [0]) (.var 4 [])) (.li 57))), 2, zz98), ((.lb true), 0, [zz60, (.sc .bool (.var 2 [])), (.sc (.int .i64) (.bin .add (.int .i64) (.bin .mul (.int .i64) (.var 3 []) (.li 10)) (.conv .i64 (.bin .sub (.int .u8) (.byte (.var 0 [0]) (.var 4 [])) (.li 48))))), zz67])]
abbrev zz99 : Pc × Side := ([(zz6, true)], (.row (.var 0 []) (.var 3 []) zz45))
abbrev zz100 : List (Tm × Nat × List SV) := [((.not (.bin .lss (.int .i64) (.var 3 []) (.var 2 []))), 1, [(.sc .sl (.var 4 []))]), ((.lb true), 0, [zz29, (.sc .sl (.var 6 []))])]
abbrev zz101 : List (Tm × Nat × List SV) := [((.not (.bin .lss (.int .i64) (.var 4 []) (.var 3 []))), 1, [(.sc .sl (.var 5 []))]), ((.lb true), 0, [zz67, (.sc .sl (.var 9 []))])]
abbrev zz102 : Tm := (.bin .lss (.int .i64) (.var 8 []) (.var 2 []))
abbrev zz103 : Tm := (.bin .lss (.int .i64) (.var 1 []) (.var 8 []))
abbrev zz104 : List (Tm × Nat × List SV) := [((.not zz56), 1, [(.sc .sl (.var 3 []))]), (zz82, 0, [(.sc .sl (.var 7 [])), zz67]), ((.lb true), 0, [(.sc .sl (.var 3 [])), zz67])]
abbrev zz105 : List (Pc × Side) := [([((.bin .lss (.int .i64) (.var 3 []) (.li 1024)), true), (zz41, false), (zz35, false)], (.call 97 [zz48] (.sc .str (.var 4 []))))]
abbrev zz106 : Tm := (.bin .eql (.int .i64) (.rlen (.var 0 [])) (.rlen (.var 6 [])))
abbrev zz107 : Tm := (.bin .leq (.int .i64) (.li 0) (.var 5 []))
abbrev zz108 : Tm := (.bin .sub (.int .i64) (.var 6 []) (.li 1))
abbrev zz109 : List SV := [(.sc .str (.var 11 [0])), (.sc (.int .i64) (.var 11 [1]))]
abbrev zz110 : Tm := (.bin .lss (.int .i64) (.var 2 []) zz10)
abbrev zz40 : Tm := (.and zz102 zz110)
abbrev zz111 : Pc := [((.var 8 []), true), ((.var 5 []), true), (zz15, false)]
abbrev zz112 : Tm := (.bin .lss (.int .i64) (.var 8 []) zz2)
abbrev zz49 : Tm := (.and zz103 zz112)
abbrev zz113 : Tm := (.bin .lss (.int .i64) (.var 5 []) (.rlen (.var 6 [])))
abbrev zz5 : List Lo := [(.mk [((.bin .lss (.int .i64) (.var 3 []) (.var 2 [])), true)] 5 2 [zz48, (.sc .sl (.var 4 []))] [((.and (.bin .gtr (.int .i64) (.var 5 []) (.var 1 [])) (.not (.or (.bin .lss (.int .i64) (.var 8 [0]) (.var 10 [0])) (.and (.bin .eql (.int .i64) (.var 8 [0]) (.var 10 [0])) (.bin .lss (.int .i64) (.var 8 [1]) (.var 10 [1])))))), 1, [(.sc (.int .i64) (.var 5 [])), (.sc .sl (.var 6 []))]), ((.not (.bin .gtr (.int .i64) (.var 5 []) (.var 1 []))), 1, [(.sc (.int .i64) (.var 5 [])), (.sc .sl (.var 6 []))]), ((.lb true), 0, [(.sc (.int .i64) zz69), (.sc .sl (.var 14 []))])] [(zz26, (.tm zz107)), (zz26, (.tm (.bin .lss (.int .i64) (.var 5 []) (.rlen (.var 0 []))))), (zz26, (.rd (true, 2) (.var 6 []) (.var 5 []) 0 (.agg zz25))), (zz26, (.call 65 [(.agg zz25)] (.tup [(.sc (.int .i64) (.var 8 [0])), (.sc (.int .i64) (.var 8 [1]))]))), (zz26, (.tm (.bin .leq (.int .i64) (.li 0) zz69))), (zz26, (.tm (.bin .lss (.int .i64) zz69 (.rlen (.var 0 []))))), (zz26, (.rd (true, 2) (.var 6 []) zz69 0 (.agg zz54))), (zz26, (.call 65 [(.agg zz54)] (.tup [(.sc (.int .i64) (.var 10 [0])), (.sc (.int .i64) (.var 10 [1]))]))), (zz0, (.tm zz107)), (zz0, (.tm zz113)), (zz0, (.tm (.bin .leq (.int .i64) (.li 0) zz69))), (zz0, (.tm (.bin .lss (.int .i64) zz69 (.rlen (.var 6 []))))), (zz0, (.row (.var 6 []) (.var 5 []) zz109)), (zz0, (.row (.var 6 []) zz69 zz27)), (zz0, (.st (.var 6 []) (.var 5 []) 0 zz27 (.var 13 []))), (zz0, (.st (.var 13 []) zz69 0 zz109 (.var 14 []))), (zz0, (.tm zz106))] [] [2] [])]
abbrev zz114 : Pc × Side := (zz16, (.call 65 [(.agg zz27)] (.tup [(.sc (.int .i64) (.var 13 [0])), (.sc (.int .i64) (.var 13 [1]))])))
abbrev zz115 : Pc × Side := (zz18, (.call 65 [(.agg zz28)] (.tup [(.sc (.int .i64) (.var 7 [0])), (.sc (.int .i64) (.var 7 [1]))])))
abbrev zz116 : List (Nat × SB) := [(3, (.rows 1 [zz13])), (2, (.rowsT 2 (.var 9 [])))]
abbrev zz46 : Pc × Side := ([((.bin .gtr (.int .i64) (.var 4 []) (.var 5 [])), false), ((.bin .neq (.int .i64) (.var 4 []) (.var 5 [])), true)], (.callw 154 [zz7, (.sc (.int .i64) (.bin .sub (.int .i64) (.var 2 []) (.var 4 []))), (.sc (.int .i64) (.bin .sub (.int .i64) (.bin .add (.int .i64) (.var 2 []) (.var 5 [])) (.var 4 []))), (.sc (.int .i64) (.var 4 []))] [(3, (.rows 1 [zz13])), (2, (.rowsT 2 (.var 6 [])))] 4 (.tup []) zz116))
abbrev zz117 : Pc × Side := (zz33, (.app 2 (.var 1 []) [[(.sc .str (.ls [])), (.sc (.int .i64) (.li 0))]] (.var 7 [])))
abbrev zz118 : Pc × Side := (zz33, (.st (.var 11 []) (.var 6 []) 0 [(.sc (.int .i64) (.var 5 [0]))] (.var 14 [])))
abbrev zz119 : Pc × Side := ([((.not (.var 5 [1])), true), (zz6, true)], (.row (.var 0 []) (.var 3 []) zz28))
abbrev zz120 : Pc × Side := (zz61, (.cat (.ssub zz8 zz19 (.bin .add (.int .i64) zz19 (.li 1))) (.var 3 [])))
abbrev zz121 : Pc × Side := (zz33, (.tm (.bin .eql (.int .i64) (.rlen (.var 7 [])) (.rlen (.var 13 [])))))
abbrev zz122 : Pc × Side := (zz33, (.tm (.bin .eql (.int .i64) (.rlen (.var 8 [])) (.rlen (.var 14 [])))))
abbrev zz123 : Pc × Side := (zz23, (.tm (.bin .eql (.int .i64) (.rlen (.var 0 [])) (.rlen (.var 5 [])))))
abbrev zz124 : Pc × Side := (zz14, (.tm (.bin .eql (.int .i64) (.rlen (.var 0 [])) (.rlen (.var 8 [])))))
abbrev zz125 : Pc := [(zz82, true), (zz56, true)]
abbrev zz126 : Pc := [(zz6, true), (zz65, false)]
abbrev zz127 : Tm := (.bin .eql .str (.var 0 [0]) (.ls []))
abbrev zz55 : Pc × Side := ([((.bin .lss (.int .u8) (.byte (.var 0 [0]) (.var 4 [])) (.li 48)), false), ((.bin .gtr (.int .u8) (.byte (.var 0 [0]) (.var 4 [])) (.li 57)), false), ((.bin .lss (.int .i64) (.var 4 []) (.slen (.var 0 [0]))), true), (zz41, false), (zz127, false), (zz35, false), (zz24, false)], (.tm (.bin .leq (.int .i64) (.li 0) (.var 4 []))))
abbrev zz68 : Pc × Side := ([((.bin .lss (.int .u8) (.byte (.var 0 [0]) (.var 4 [])) (.li 48)), false), ((.bin .lss (.int .i64) (.var 4 []) (.slen (.var 0 [0]))), true), (zz41, false), (zz127, false), (zz35, false), (zz24, false)], (.tm (.bin .leq (.int .i64) (.li 0) (.var 4 []))))
abbrev zz79 : Pc × Side := ([((.bin .lss (.int .i64) (.var 4 []) (.slen (.var 0 [0]))), true), (zz41, false), (zz127, false), (zz35, false), (zz24, false)], (.tm (.bin .leq (.int .i64) (.li 0) (.var 4 []))))
abbrev zz128 : Pc × Side := (zz33, (.app 1 (.var 2 []) [[(.sc (.int .i64) (.li 0))]] (.var 8 [])))
abbrev zz129 : Pc × Side := (zz18, (.tm (.bin .lss (.int .i64) (.var 1 []) (.rlen (.var 0 [])))))
abbrev zz130 : Pc × Side := (zz17, (.tm (.bin .lss (.int .i64) (.var 2 []) (.rlen (.var 0 [])))))
abbrev zz131 : Pc × Side := (zz14, (.tm (.bin .lss (.int .i64) (.var 7 []) (.rlen (.var 8 [])))))
abbrev zz132 : Pc × Side := (zz33, (.tm (.bin .lss (.int .i64) (.var 6 []) (.rlen (.var 7 [])))))
abbrev zz133 : Pc × Side := (zz33, (.tm (.bin .lss (.int .i64) (.var 6 []) (.rlen (.var 8 [])))))
abbrev zz134 : List SV := [zz7, zz60, (.sc (.int .i64) (.var 8 [])), (.sc (.int .i64) zz2)]
abbrev zz135 : Tm := (.bin .leq (.int .i64) (.rlen (.var 0 [])) (.rlen (.var 1 [])))
abbrev zz136 : Pc × Side := (zz23, (.tm (.bin .lss (.int .i64) zz63 (.rlen (.var 5 [])))))
abbrev zz137 : Pc × Side := (zz23, (.tm (.bin .lss (.int .i64) zz64 (.rlen (.var 5 [])))))
abbrev zz138 : Pc × Side := (zz18, (.tm (.bin .lss (.int .i64) zz21 (.rlen (.var 0 [])))))
abbrev zz139 : Pc × Side := (zz11, (.tm (.bin .lss (.int .i64) zz58 (.rlen (.var 6 [])))))
abbrev zz140 : Pc × Side := (zz17, (.tm (.bin .lss (.int .i64) zz22 (.rlen (.var 0 [])))))
abbrev zz141 : Pc × Side := (zz14, (.tm (.bin .lss (.int .i64) zz59 (.rlen (.var 8 [])))))
abbrev zz142 : Pc × Side := (zz16, (.tm (.bin .lss (.int .i64) zz44 (.rlen (.var 0 [])))))
abbrev zz143 : Pc × Side := (zz16, (.tm (.bin .lss (.int .i64) zz12 (.rlen (.var 0 [])))))
abbrev zz144 : Pc × Side := (zz18, (.rd (true, 2) (.var 0 []) (.var 1 []) 0 (.agg zz34)))
abbrev zz145 : Pc × Side := (zz17, (.rd (true, 2) (.var 0 []) (.var 2 []) 0 (.agg zz34)))
abbrev zz146 : SV := (.sc (.int .i64) (.var 14 [0]))
abbrev zz9 : List Lo := [(.mk zz33 6 1 [(.sc (.int .i64) (.rlen (.var 1 [])))] [((.not (.and (.bin .gtr (.int .i64) (.var 6 []) (.li 0)) (.bin .gtr (.int .i64) (.var 7 [0]) (.var 5 [0])))), 1, [(.sc (.int .i64) (.var 6 []))]), ((.lb true), 0, [(.sc (.int .i64) zz108)])] [(zz91, (.tm (.bin .leq (.int .i64) (.li 0) zz108))), (zz91, (.tm (.bin .lss (.int .i64) zz108 (.rlen (.var 2 []))))), (zz91, (.rd (false, 1) (.var 2 []) zz108 0 (.sc (.int .i64) (.var 7 [0]))))] [] [1] [(.var 0 []), (.var 1 []), (.var 2 [])]), (.mk zz33 9 3 [(.sc (.int .i64) (.bin .sub (.int .i64) (.rlen (.var 7 [])) (.li 1))), (.sc .sl (.var 7 [])), (.sc .sl (.var 8 []))] [((.not (.bin .gtr (.int .i64) (.var 9 []) (.var 6 []))), 1, [(.sc (.int .i64) (.var 9 [])), (.sc .sl (.var 10 [])), (.sc .sl (.var 11 []))]), ((.lb true), 0, [(.sc (.int .i64) zz74), (.sc .sl (.var 13 [])), (.sc .sl (.var 15 []))])] [(zz3, (.tm (.bin .leq (.int .i64) (.li 0) zz74))), (zz3, (.tm (.bin .lss (.int .i64) zz74 (.rlen (.var 7 []))))), (zz3, (.rd (true, 2) (.var 10 []) zz74 0 (.agg zz27))), (zz3, (.tm (.bin .leq (.int .i64) (.li 0) (.var 9 [])))), (zz3, (.tm (.bin .lss (.int .i64) (.var 9 []) (.rlen (.var 7 []))))), (zz3, (.st (.var 10 []) (.var 9 []) 0 zz27 (.var 13 []))), (zz3, (.tm (.bin .leq (.int .i64) (.li 0) zz74))), (zz3, (.tm (.bin .lss (.int .i64) zz74 (.rlen (.var 8 []))))), (zz3, (.rd (false, 1) (.var 11 []) zz74 0 zz146)), (zz3, (.tm (.bin .leq (.int .i64) (.li 0) (.var 9 [])))), (zz3, (.tm (.bin .lss (.int .i64) (.var 9 []) (.rlen (.var 8 []))))), (zz3, (.st (.var 11 []) (.var 9 []) 0 [zz146] (.var 15 [])))] [] [3] [(.var 0 []), (.var 7 []), (.var 8 [])])]
abbrev zz147 : Pc × Side := (zz33, (.st (.var 10 []) (.var 6 []) 0 zz27 (.var 13 [])))
abbrev zz148 : Pc × Side := (zz18, (.tm (.bin .leq (.int .i64) (.li 0) (.var 1 []))))
abbrev zz149 : Pc × Side := (zz17, (.tm (.bin .leq (.int .i64) (.li 0) (.var 2 []))))
abbrev zz150 : Pc × Side := (zz14, (.tm (.bin .leq (.int .i64) (.li 0) (.var 7 []))))
abbrev zz151 : Pc × Side := (zz14, (.st (.var 8 []) (.var 7 []) 0 zz31 (.var 11 [])))
theorem xBase_ok : ∀ σ : List AV, fzL σ = true → ExtOk Try.prog σ xBase := xOr_ok (xNum_ok pc_math_Float64bits pc_math_Float64frombits pc_math_archTrunc) xClone_ok
noncomputable def iBase : Inl := inOr (inlRefT Try.prog refCfg) (inOr (inlO Try.prog (ocT [(13, [0], 18, true), (15, [0], 18, true), (54, [0], 18, false), (40, [0], 18, false), (42, [0, 0], 18, false), (46, [0, 0], 18, false), (20, [], 2, true), (56, [0], 1, true), (21, [], 2, true)])) (notF [115, 116] (inlW Try.prog (wcT [(19, [(0, 18)]), (95, [(1, 2)]), (124, [(1, 2)]), (125, [(1, 2)]), (146, [(1, 2)]), (154, [(1, 2)]), (138, []), (83, []), (86, []), (151, [])]))))
theorem iBase_ok : ∀ σ : List AV, fzL σ = true → InlOk Try.prog σ iBase := inOr_ok (inlRefT_ok refOk) (inOr_ok inlO_ok (notF_ok inlW_ok))
def mdI : Md := mdT 5871356456934584128998323772304836953465305039137907605078317279422907571424627691949337275146424997092786176
def kA : List (List Nat) := [[], [], [], [], [], [], [], [], [], [], [], [], [], [], [], [], [], [], [], [], [], [], [], [], [], [], [], [], [], [], [], [], [], [], [], [], [], [], [], [], [], [], [], [], [], [], [], [], [], [], [], [], [], [], [], [], [], [], [], [], [], [], [], [], [0, 1, 2, 5, 6, 7, 8, 9, 30, 31, 32, 33, 34, 35, 36, 37], [], [0, 1, 4, 5], [], [], [], [], [], [], [], [], [], [], [], [], [], [], [], [], [0, 1, 2, 6, 7, 8, 9, 14, 15, 16, 17, 18, 30], [], [], [0, 1, 2, 6, 7, 8, 9, 14, 15, 16, 17, 18, 30], [], [], [], [], [], [], [], [], [1, 2, 4, 5, 6, 7, 11, 26, 31, 49], [], [], [], [], [], [], [], [], [], [], [], [], [], [], [], [], [], [], [], [], [], [], [], [], [], [], [], [], [1, 2, 3, 6, 7, 12, 20, 21, 22, 23, 24, 25, 26], [1, 2, 3, 4, 8, 9, 10, 11, 12, 13, 14, 15, 16, 17, 18, 19, 20, 21, 22, 26, 31, 42, 50, 62, 67, 79, 86, 106, 117, 131, 142, 143, 144, 145, 155, 156, 157, 158, 168, 169, 170, 171], [], [], [], [], [], [], [], [], [], [], [], [], [0, 1, 4], [], [], [], [], [], [], [], [1, 2, 3, 4, 8, 9, 18, 21], [], [], [], [], [0, 1, 4, 5, 7, 8, 9, 16], [], [], [1, 2, 3, 4, 8, 11], [], [], [], [], [], [], [], [], [], [], [], [], [], [], [], [], [], [], [], [], [], [], [], [], [], [], [], []]
def rk_key_Index_l1 (r : Bool × Int × Bool × Int × Int × Bool) : Nat × List AV := rk2 r.1 [(.p (.int .i64 r.2.1)), (.p (.bool r.2.2.1)), (.p (.int .i64 r.2.2.2.1))] [(.p (.int .i64 r.2.2.2.2.1)), (.p (.bool r.2.2.2.2.2))]
theorem lp_key_Index_l1 (x0 : GKey) (q0 : sLen x0.Str ≤ 4) : ∀ (n : Nat) (u1 : Int) (u2 : Bool) (u3 : Int) (u4 : Int), (0 ≤ u4) → ((sLen x0.Str) - u4).toNat < n → RunN (fun σ => SidesOk Try.prog σ [zz79,
  zz68,
  zz55] ∧ LoL Try.prog [] σ)
  zz32
  [(GKey.av x0)] 4 n [(.p (.int .i64 u1)), (.p (.bool u2)), (.p (.int .i64 u3)), (.p (.int .i64 u4))] (rk_key_Index_l1 (key_Index_l1 x0 n u1 u2 u3 u4)).1 (rk_key_Index_l1 (key_Index_l1 x0 n u1 u2 u3 u4)).2
 | 0, u1, u2, u3, u4, hi, hm => absurd hm (Nat.not_lt_zero _)
 | n + 1, u1, u2, u3, u4, hi, hm =>
  rn_mk (r := rk_key_Index_l1 (key_Index_l1 x0 (n + 1) u1 u2 u3 u4)) [] [(GKey.av x0), (.p (.int .i64 u1)), (.p (.bool u2)), (.p (.int .i64 u3)), (.p (.int .i64 u4))] rfl rfl (fzc (GKey.fz _) (fzc rfl (fzc rfl (fzc rfl (fzc rfl (fzn)))))) ⟨SidesC.ok (sc (fun h => decide_eq_true (p := (0 : Int) ≤ u4) (by have a0 : u4 < (sLen x0.Str) := of_decide_eq_true (h.at 0 rfl); have a1 : ¬ x0.Sym > 0 := of_decide_eq_false (h.at 1 rfl); have a3 : ¬ (sLen x0.Str) > 4 := of_decide_eq_false (h.at 3 rfl); omega))
   (sc (fun h => decide_eq_true (p := (0 : Int) ≤ u4) (by have a0 : ¬ (((x0.Str.getD (u4 : Int).toNat 0).toNat : Nat) : Int) < 48 := of_decide_eq_false (h.at 0 rfl); have a1 : u4 < (sLen x0.Str) := of_decide_eq_true (h.at 1 rfl); have a2 : ¬ x0.Sym > 0 := of_decide_eq_false (h.at 2 rfl); have a4 : ¬ (sLen x0.Str) > 4 := of_decide_eq_false (h.at 4 rfl); omega))
   (sc (fun h => decide_eq_true (p := (0 : Int) ≤ u4) (by have a0 : ¬ (((x0.Str.getD (u4 : Int).toNat 0).toNat : Nat) : Int) < 48 := of_decide_eq_false (h.at 0 rfl); have a1 : ¬ (((x0.Str.getD (u4 : Int).toNat 0).toNat : Nat) : Int) > 57 := of_decide_eq_false (h.at 1 rfl); have a2 : u4 < (sLen x0.Str) := of_decide_eq_true (h.at 2 rfl); have a3 : ¬ x0.Sym > 0 := of_decide_eq_false (h.at 3 rfl); have a5 : ¬ (sLen x0.Str) > 4 := of_decide_eq_false (h.at 5 rfl); omega))
   (sn)))),
   ll_nil⟩
   (rn_cons rk_key_Index_l1 (c := (!(decide ((u4 : Int) < (sLen x0.Str))))) rfl (fun hc0 => rn_exit rfl rfl) (fun hc0 => rn_cons rk_key_Index_l1 (c := ((decide (((((x0.Str.getD (u4 : Int).toNat 0).toNat : Nat) : Int) : Int) < 48)) || (decide (((((x0.Str.getD (u4 : Int).toNat 0).toNat : Nat) : Int) : Int) > 57)))) rfl (fun hc1 => rn_exit rfl rfl) (fun hc1 => rn_last (rn_go rfl (lp_key_Index_l1 x0 q0 n (u1) (u2) ((iAdd .i64 (iMul .i64 u3 10) (IntKind.wrap .i64 (iSub .u8 (((x0.Str.getD (u4 : Int).toNat 0).toNat : Nat) : Int) 48)))) ((iAdd .i64 u4 1)) (by have g0_0 : u4 < (sLen x0.Str) := of_decide_eq_true (bn_f hc0); have g1_0 : ¬ (((x0.Str.getD (u4 : Int).toNat 0).toNat : Nat) : Int) < 48 := of_decide_eq_false (q_or1 hc1); have g1_1 : ¬ (((x0.Str.getD (u4 : Int).toNat 0).toNat : Nat) : Int) > 57 := of_decide_eq_false (q_or2 hc1); (try have ia0 : (iMul .i64 u3 10) = u3 * 10 := iMulC (by first | omega | (simp only [lens]; omega)) (by omega)); (try have ia1 : (iAdd .i64 (iMul .i64 u3 10) (IntKind.wrap .i64 (iSub .u8 (((x0.Str.getD (u4 : Int).toNat 0).toNat : Nat) : Int) 48))) = (iMul .i64 u3 10) + (IntKind.wrap .i64 (iSub .u8 (((x0.Str.getD (u4 : Int).toNat 0).toNat : Nat) : Int) 48)) := iAddC (by first | omega | (simp only [lens]; omega)) (by omega)); (try have ia2 : (iAdd .i64 u4 1) = u4 + 1 := iAddC (by first | omega | (simp only [lens]; omega)) (by omega)); (omega)) (by have g0_0 : u4 < (sLen x0.Str) := of_decide_eq_true (bn_f hc0); have g1_0 : ¬ (((x0.Str.getD (u4 : Int).toNat 0).toNat : Nat) : Int) < 48 := of_decide_eq_false (q_or1 hc1); have g1_1 : ¬ (((x0.Str.getD (u4 : Int).toNat 0).toNat : Nat) : Int) > 57 := of_decide_eq_false (q_or2 hc1); (try have ia0 : (iMul .i64 u3 10) = u3 * 10 := iMulC (by first | omega | (simp only [lens]; omega)) (by omega)); (try have ia1 : (iAdd .i64 (iMul .i64 u3 10) (IntKind.wrap .i64 (iSub .u8 (((x0.Str.getD (u4 : Int).toNat 0).toNat : Nat) : Int) 48))) = (iMul .i64 u3 10) + (IntKind.wrap .i64 (iSub .u8 (((x0.Str.getD (u4 : Int).toNat 0).toNat : Nat) : Int) 48)) := iAddC (by first | omega | (simp only [lens]; omega)) (by omega)); (try have ia2 : (iAdd .i64 u4 1) = u4 + 1 := iAddC (by first | omega | (simp only [lens]; omega)) (by omega)); omega))))))
theorem e_key_Index : sFnI Try.prog xBase iBase mdI (fcI kA 92 [44, 46, 45, 47, 48, 35, 5, 4, 2, 3] [(0, (.mk [1, 34] (.mk [(2, (.sc (.int .i64))), (3, (.sc .bool)), (4, (.sc (.int .i64))), (35, (.sc (.int .i64)))] [] [] 34) [(.normal, (.mk [(2, (.sc (.int .i64))), (3, (.sc .bool)), (4, (.sc (.int .i64)))] [] [] 34)), (.ret, (.mk [(2, (.sc (.int .i64))), (3, (.sc .bool))] [] [] 34))]))]) 3 200 92 [.agg (cellsV 0 [] 0 GKey.kds)] 1 = some ⟨[((.or (.or (.or zz41 zz127) zz35) zz24), (.tup zz98)), ((.not (.bin .eql (.int .i64) (.var 1 []) (.li 0))), (.tup [(.sc (.int .i64) (.var 5 [])), (.sc .bool (.var 6 []))])), ((.bin .geq (.int .i64) (.var 4 []) (.li 1024)), (.tup zz98)), ((.lb true), (.tup [(.sc (.int .i64) (.var 4 [])), (.sc .bool (.lb true))]))],
 [([((.bin .gtr (.int .i64) (.slen (.var 0 [0])) (.li 1)), true), ((.or (.or zz41 zz127) zz35), false)], (.tm (.bin .lss (.int .i64) (.li 0) (.slen (.var 0 [0])))))],
 [(.mk [(zz41, false), (zz127, false), (zz35, false), (zz24, false)] 1 4 [(.sc (.int .i64) (.li 0)), (.sc .bool (.lb false)), (.sc (.int .i64) (.li 0)), (.sc (.int .i64) (.li 0))] zz32 [zz79, zz68, zz55] [] [3, 2] [])]⟩ := by kernel_rfl
theorem pc_key_Index (x0 : GKey) : PC Try.prog 92 [(GKey.av x0)] (eR_ii64_bool (key_Index x0)) := pc_bnd fun hb =>
 let r1 : Bool × Int × Bool × Int × Int × Bool := key_Index_l1 x0 (((sLen x0.Str) : Int).toNat + 1) 0 false 0 0
 mk_pcXIL (ρ := [(GKey.av x0), (.p (.int .i64 (selB r1.1))), (.p (.int .i64 r1.2.1)), (.p (.bool r1.2.2.1)), (.p (.int .i64 r1.2.2.2.1)), (.p (.int .i64 r1.2.2.2.2.1)), (.p (.bool r1.2.2.2.2.2))]) hmix xBase_ok iBase_ok e_key_Index (fzc (GKey.fz _) (fzc rfl (fzc rfl (fzc rfl (fzc rfl (fzc rfl (fzc rfl (fzn))))))))
  (sc (fun h => decide_eq_true (p := (0 : Int) < (sLen x0.Str)) (by have a0 : (sLen x0.Str) > 1 := of_decide_eq_true (h.at 0 rfl); have a1 : ¬ x0.Sym > 0 := of_decide_eq_false (q_or1 (q_or1 (h.at 1 rfl))); have a1_1 : ¬ (sLen x0.Str) > 4 := of_decide_eq_false (q_or2 (h.at 1 rfl)); omega))
  (sn))
  (ll_cons (lo_mk2 (((sLen x0.Str) : Int).toNat + 1) r1.1 [(.p (.int .i64 r1.2.1)), (.p (.bool r1.2.2.1)), (.p (.int .i64 r1.2.2.2.1))] [(.p (.int .i64 r1.2.2.2.2.1)), (.p (.bool r1.2.2.2.2.2))] rfl (fun h hb => lp_key_Index_l1 x0  (by have a0 : ¬ x0.Sym > 0 := of_decide_eq_false (h.at 0 rfl); have a2 : ¬ (sLen x0.Str) > 4 := of_decide_eq_false (h.at 2 rfl); omega) (((sLen x0.Str) : Int).toNat + 1) (0) (false) (0) (0) (by have a0 : ¬ x0.Sym > 0 := of_decide_eq_false (h.at 0 rfl); have a2 : ¬ (sLen x0.Str) > 4 := of_decide_eq_false (h.at 2 rfl); (omega)) (by have a0 : ¬ x0.Sym > 0 := of_decide_eq_false (h.at 0 rfl); have a2 : ¬ (sLen x0.Str) > 4 := of_decide_eq_false (h.at 2 rfl); omega)) rfl rfl rfl)
  (ll_nil))
  rfl (selE eR_ii64_bool rfl rfl (selE eR_ii64_bool rfl rfl (selE eR_ii64_bool rfl rfl (selL rfl))))
theorem e_key_place : sFnI Try.prog xBase iBase mdI (fcI kA 65 [] []) 3 200 65 [.agg (cellsV 0 [] 0 GKey.kds)] 1 = some ⟨[((.var 1 [1]), (.tup [(.sc (.int .i64) (.li 0)), (.sc (.int .i64) (.var 1 [0]))])), (zz41, (.tup [(.sc (.int .i64) (.li 2)), (.sc (.int .i64) (.li 0))])), ((.lb true), (.tup [(.sc (.int .i64) (.li 1)), (.sc (.int .i64) (.li 0))]))],
 [([], (.call 92 [(.agg [(.sc .str (.var 0 [0])), (.sc (.int .i64) (.var 0 [1]))])] (.tup [(.sc (.int .i64) (.var 1 [0])), (.sc .bool (.var 1 [1]))])))],
 []⟩ := by kernel_rfl
theorem pc_key_place (x0 : GKey) : PC Try.prog 65 [(GKey.av x0)] (eR_ii64_ii64 (key_place x0)) := pc_bnd fun hb =>
 let v1 : Int × Bool := key_Index x0
 mk_pcXIL (ρ := [(GKey.av x0), (eR_ii64_bool v1)]) hmix xBase_ok iBase_ok e_key_place (fzc (GKey.fz _) (fzc (show (eR_ii64_bool v1).fz = true from (fzc rfl (fzc rfl (fzn)) : fzL _ = true)) (fzn)))
  (sc (fun _ => pc_key_Index (x0))
  (sn))
  (ll_nil)
  rfl (selE eR_ii64_ii64 rfl rfl (selE eR_ii64_ii64 rfl rfl (selL rfl)))
def rk_sI_l5 (r : Int × List GKey) : Nat × List AV := (0, [(.p (.int .i64 r.1)), (.sl (List.map GKey.enc r.2) false)])
theorem lp_sI_l5 (x0 : List GKey) (x1 : Int) (x2 : Int) (u3 : Int) (u4 : List GKey) (hb0 : x0.length ≤ 4294967296) (h0 : 0 ≤ x1) (h1 : x2 ≤ x0.length) (h2 : x1 ≤ x0.length) (q0 : u3 < x2) (q1 : x1 + 1 ≤ u3) : ∀ (n : Nat) (u5 : Int) (u6 : List GKey), (x1 ≤ u5 ∧ u5 ≤ u3 ∧ u6.length = x0.length) → (u5 - x1).toNat < n → RunN (fun σ => SidesOk Try.prog σ [(zz26, (.tm zz107)),
  (zz26, (.tm (.bin .lss (.int .i64) (.var 5 []) (.rlen (.var 0 []))))),
  (zz26, (.rd (true, 2) (.var 6 []) (.var 5 []) 0 (.agg zz25))),
  (zz26, (.call 65 [(.agg zz25)] (.tup [(.sc (.int .i64) (.var 8 [0])), (.sc (.int .i64) (.var 8 [1]))]))),
  (zz26, (.tm (.bin .leq (.int .i64) (.li 0) zz69))),
  (zz26, (.tm (.bin .lss (.int .i64) zz69 (.rlen (.var 0 []))))),
  (zz26, (.rd (true, 2) (.var 6 []) zz69 0 (.agg zz54))),
  (zz26, (.call 65 [(.agg zz54)] (.tup [(.sc (.int .i64) (.var 10 [0])), (.sc (.int .i64) (.var 10 [1]))]))),
  (zz0, (.tm zz107)),
  (zz0, (.tm zz113)),
  (zz0, (.tm (.bin .leq (.int .i64) (.li 0) zz69))),
  (zz0, (.tm (.bin .lss (.int .i64) zz69 (.rlen (.var 6 []))))),
  (zz0, (.row (.var 6 []) (.var 5 []) zz109)),
  (zz0, (.row (.var 6 []) zz69 zz27)),
  (zz0, (.st (.var 6 []) (.var 5 []) 0 zz27 (.var 13 []))),
  (zz0, (.st (.var 13 []) zz69 0 zz109 (.var 14 []))),
  (zz0, (.tm zz106))] ∧ LoL Try.prog [] σ)
  [((.and (.bin .gtr (.int .i64) (.var 5 []) (.var 1 [])) (.not (.or (.bin .lss (.int .i64) (.var 8 [0]) (.var 10 [0])) (.and (.bin .eql (.int .i64) (.var 8 [0]) (.var 10 [0])) (.bin .lss (.int .i64) (.var 8 [1]) (.var 10 [1])))))), 1, [(.sc (.int .i64) (.var 5 [])), (.sc .sl (.var 6 []))]), ((.not (.bin .gtr (.int .i64) (.var 5 []) (.var 1 []))), 1, [(.sc (.int .i64) (.var 5 [])), (.sc .sl (.var 6 []))]), ((.lb true), 0, [(.sc (.int .i64) zz69), (.sc .sl (.var 14 []))])]
  [(.sl (List.map GKey.enc x0) false), (.p (.int .i64 x1)), (.p (.int .i64 x2)), (.p (.int .i64 u3)), (.sl (List.map GKey.enc u4) false)] 2 n [(.p (.int .i64 u5)), (.sl (List.map GKey.enc u6) false)] (rk_sI_l5 (sI_l5 x1 n u5 u6)).1 (rk_sI_l5 (sI_l5 x1 n u5 u6)).2
 | 0, u5, u6, hi, hm => absurd hm (Nat.not_lt_zero _)
 | n + 1, u5, u6, hi, hm =>
  let v7 : GKey := u6.getD (u5 : Int).toNat default
  let v8 : Int × Int := key_place v7
  let v9 : GKey := u6.getD ((iSub .i64 u5 1) : Int).toNat default
  let v10 : Int × Int := key_place v9
  let v11 : GKey := u6.getD (u5 : Int).toNat default
  let v12 : GKey := u6.getD ((iSub .i64 u5 1) : Int).toNat default
  let v13 : List GKey := u6.set (u5 : Int).toNat v12
  let v14 : List GKey := v13.set ((iSub .i64 u5 1) : Int).toNat v11
  have ia0 : (iSub .i64 u5 1) = u5 - 1 := iSubC (by omega) (by omega)
  rn_mk (r := rk_sI_l5 (sI_l5 x1 (n + 1) u5 u6)) [(GKey.av v7), (eR_ii64_ii64 v8), (GKey.av v9), (eR_ii64_ii64 v10), (GKey.av v11), (GKey.av v12), (.sl (List.map GKey.enc v13) false), (.sl (List.map GKey.enc v14) false)] [(.sl (List.map GKey.enc x0) false), (.p (.int .i64 x1)), (.p (.int .i64 x2)), (.p (.int .i64 u3)), (.sl (List.map GKey.enc u4) false), (.p (.int .i64 u5)), (.sl (List.map GKey.enc u6) false), (GKey.av v7), (eR_ii64_ii64 v8), (GKey.av v9), (eR_ii64_ii64 v10), (GKey.av v11), (GKey.av v12), (.sl (List.map GKey.enc v13) false), (.sl (List.map GKey.enc v14) false)] rfl rfl (fzc (fzs GKey.fzL _) (fzc rfl (fzc rfl (fzc rfl (fzc (fzs GKey.fzL _) (fzc rfl (fzc (fzs GKey.fzL _) (fzc (GKey.fz _) (fzc (show (eR_ii64_ii64 v8).fz = true from (fzc rfl (fzc rfl (fzn)) : fzL _ = true)) (fzc (GKey.fz _) (fzc (show (eR_ii64_ii64 v10).fz = true from (fzc rfl (fzc rfl (fzn)) : fzL _ = true)) (fzc (GKey.fz _) (fzc (GKey.fz _) (fzc (fzs GKey.fzL _) (fzc (fzs GKey.fzL _) (fzn)))))))))))))))) ⟨SidesC.ok (sc (fun h => decide_eq_true (p := (0 : Int) ≤ u5) (by have a0 : u5 > x1 := of_decide_eq_true (h.at 0 rfl); have a1 : u3 < x2 := of_decide_eq_true (h.at 1 rfl); omega))
   (sc (fun h => decide_eq_true (p := (u5 : Int) < (mLen GKey.enc x0)) (by have a0 : u5 > x1 := of_decide_eq_true (h.at 0 rfl); have a1 : u3 < x2 := of_decide_eq_true (h.at 1 rfl); (simp only [lens, v13, v14] <;> omega)))
   (sc (fun h => rd_side (f := GKey.enc) (l := u6) (i := u5) (n := 2) (by have a0 : u5 > x1 := of_decide_eq_true (h.at 0 rfl); have a1 : u3 < x2 := of_decide_eq_true (h.at 1 rfl); omega) (by have a0 : u5 > x1 := of_decide_eq_true (h.at 0 rfl); have a1 : u3 < x2 := of_decide_eq_true (h.at 1 rfl); omega) (fun _ => rfl) (by first | exact ⟨Nat.le_of_ble_eq_true rfl, rfl⟩ | exact rfl))
   (sc (fun _ => pc_key_place (v7))
   (sc (fun h => decide_eq_true (p := (0 : Int) ≤ (iSub .i64 u5 1)) (by have a0 : u5 > x1 := of_decide_eq_true (h.at 0 rfl); have a1 : u3 < x2 := of_decide_eq_true (h.at 1 rfl); omega))
   (sc (fun h => decide_eq_true (p := ((iSub .i64 u5 1) : Int) < (mLen GKey.enc x0)) (by have a0 : u5 > x1 := of_decide_eq_true (h.at 0 rfl); have a1 : u3 < x2 := of_decide_eq_true (h.at 1 rfl); (simp only [lens, v13, v14] <;> omega)))
   (sc (fun h => rd_side (f := GKey.enc) (l := u6) (i := (iSub .i64 u5 1)) (n := 2) (by have a0 : u5 > x1 := of_decide_eq_true (h.at 0 rfl); have a1 : u3 < x2 := of_decide_eq_true (h.at 1 rfl); omega) (by have a0 : u5 > x1 := of_decide_eq_true (h.at 0 rfl); have a1 : u3 < x2 := of_decide_eq_true (h.at 1 rfl); omega) (fun _ => rfl) (by first | exact ⟨Nat.le_of_ble_eq_true rfl, rfl⟩ | exact rfl))
   (sc (fun _ => pc_key_place (v9))
   (sc (fun h => decide_eq_true (p := (0 : Int) ≤ u5) (by have a0 : u5 > x1 := of_decide_eq_true (h.at 0 rfl); have a2 : u3 < x2 := of_decide_eq_true (h.at 2 rfl); omega))
   (sc (fun h => decide_eq_true (p := (u5 : Int) < (mLen GKey.enc u6)) (by have a0 : u5 > x1 := of_decide_eq_true (h.at 0 rfl); have a2 : u3 < x2 := of_decide_eq_true (h.at 2 rfl); (simp only [lens, v13, v14] <;> omega)))
   (sc (fun h => decide_eq_true (p := (0 : Int) ≤ (iSub .i64 u5 1)) (by have a0 : u5 > x1 := of_decide_eq_true (h.at 0 rfl); have a2 : u3 < x2 := of_decide_eq_true (h.at 2 rfl); omega))
   (sc (fun h => decide_eq_true (p := ((iSub .i64 u5 1) : Int) < (mLen GKey.enc u6)) (by have a0 : u5 > x1 := of_decide_eq_true (h.at 0 rfl); have a2 : u3 < x2 := of_decide_eq_true (h.at 2 rfl); (simp only [lens, v13, v14] <;> omega)))
   (sc (fun h => row_i (i := u5) (by have a0 : u5 > x1 := of_decide_eq_true (h.at 0 rfl); have a2 : u3 < x2 := of_decide_eq_true (h.at 2 rfl); omega) (by have a0 : u5 > x1 := of_decide_eq_true (h.at 0 rfl); have a2 : u3 < x2 := of_decide_eq_true (h.at 2 rfl); omega))
   (sc (fun h => row_i (i := (iSub .i64 u5 1)) (by have a0 : u5 > x1 := of_decide_eq_true (h.at 0 rfl); have a2 : u3 < x2 := of_decide_eq_true (h.at 2 rfl); omega) (by have a0 : u5 > x1 := of_decide_eq_true (h.at 0 rfl); have a2 : u3 < x2 := of_decide_eq_true (h.at 2 rfl); omega))
   (sc (fun h => st_side (off := 0) (cells := denL _ zz27) (f := GKey.enc) (l := u6) (i := u5) (n := 2) v12 (by have a0 : u5 > x1 := of_decide_eq_true (h.at 0 rfl); have a2 : u3 < x2 := of_decide_eq_true (h.at 2 rfl); omega) (by have a0 : u5 > x1 := of_decide_eq_true (h.at 0 rfl); have a2 : u3 < x2 := of_decide_eq_true (h.at 2 rfl); omega) (fun _ => rfl) rfl rfl)
   (sc (fun h => st_side (off := 0) (cells := denL _ zz109) (f := GKey.enc) (l := v13) (i := (iSub .i64 u5 1)) (n := 2) v11 (by have a0 : u5 > x1 := of_decide_eq_true (h.at 0 rfl); have a2 : u3 < x2 := of_decide_eq_true (h.at 2 rfl); omega) (by have a0 : u5 > x1 := of_decide_eq_true (h.at 0 rfl); have a2 : u3 < x2 := of_decide_eq_true (h.at 2 rfl); (simp only [lens, v13, v14] <;> omega)) (fun _ => rfl) rfl rfl)
   (sc (fun h => iEq_t.2 (show ((mLen GKey.enc x0) : Int) = (mLen GKey.enc u6) from (by have a0 : u5 > x1 := of_decide_eq_true (h.at 0 rfl); have a2 : u3 < x2 := of_decide_eq_true (h.at 2 rfl); (simp only [lens, v13, v14] <;> omega))))
   (sn)))))))))))))))))),
   ll_nil⟩
   (rn_cons rk_sI_l5 (c := ((decide ((u5 : Int) > x1)) && (!((decide ((v8.1 : Int) < v10.1)) || ((iEq v8.1 v10.1) && (decide ((v8.2 : Int) < v10.2))))))) rfl (fun hc0 => rn_exit rfl rfl) (fun hc0 => rn_cons rk_sI_l5 (c := (!(decide ((u5 : Int) > x1)))) rfl (fun hc1 => rn_exit rfl rfl) (fun hc1 => rn_last (rn_go rfl (lp_sI_l5 x0 x1 x2 u3 u4 hb0 h0 h1 h2 q0 q1 n ((iSub .i64 u5 1)) (v14) (by have g1_0 : u5 > x1 := of_decide_eq_true (bn_f hc1); refine ⟨?_, ?_, ?_⟩ <;> ((simp [lens, v13, v14, *] <;> omega))) (by have g1_0 : u5 > x1 := of_decide_eq_true (bn_f hc1); omega))))))
def rk_sI_l3 (r : List GKey) : Nat × List AV := (0, [(.sl (List.map GKey.enc r) false)])
theorem lp_sI_l3 (x0 : List GKey) (x1 : Int) (x2 : Int) (hb0 : x0.length ≤ 4294967296) (h0 : 0 ≤ x1) (h1 : x2 ≤ x0.length) (h2 : x1 ≤ x0.length) : ∀ (n : Nat) (u3 : Int) (u4 : List GKey), (0 ≤ u3 ∧ x1 + 1 ≤ u3 ∧ u4.length = x0.length ∧ u3 ≤ x0.length + 1) → (x2 - u3).toNat < n → RunN (fun σ => SidesOk Try.prog σ [] ∧ LoL Try.prog zz5 σ)
  zz100
  [(.sl (List.map GKey.enc x0) false), (.p (.int .i64 x1)), (.p (.int .i64 x2))] 2 n [(.p (.int .i64 u3)), (.sl (List.map GKey.enc u4) false)] (rk_sI_l3 (sI_l3 x1 x2 n u3 u4)).1 (rk_sI_l3 (sI_l3 x1 x2 n u3 u4)).2
 | 0, u3, u4, hi, hm => absurd hm (Nat.not_lt_zero _)
 | n + 1, u3, u4, hi, hm =>
  let r5 : Int × List GKey := sI_l5 x1 ((u3 - x1).toNat + 1) u3 u4
  have hp5_0 : r5.2.length = u4.length := insertion_l5_len
  have ia0 : (iAdd .i64 u3 1) = u3 + 1 := iAddC (by omega) (by omega)
  rn_mk (r := rk_sI_l3 (sI_l3 x1 x2 (n + 1) u3 u4)) [(.p (.int .i64 r5.1)), (.sl (List.map GKey.enc r5.2) false)] [(.sl (List.map GKey.enc x0) false), (.p (.int .i64 x1)), (.p (.int .i64 x2)), (.p (.int .i64 u3)), (.sl (List.map GKey.enc u4) false), (.p (.int .i64 r5.1)), (.sl (List.map GKey.enc r5.2) false)] rfl rfl (fzc (fzs GKey.fzL _) (fzc rfl (fzc rfl (fzc rfl (fzc (fzs GKey.fzL _) (fzc rfl (fzc (fzs GKey.fzL _) (fzn)))))))) ⟨SidesC.ok (sn),
   ll_cons (lo_mk1 ((u3 - x1).toNat + 1) [(.p (.int .i64 r5.1)), (.sl (List.map GKey.enc r5.2) false)] rfl (fun h hb => lp_sI_l5 x0 x1 x2 u3 u4  hb0 h0 h1 h2 (by have a0 : u3 < x2 := of_decide_eq_true (h.at 0 rfl); omega) (by have a0 : u3 < x2 := of_decide_eq_true (h.at 0 rfl); omega) ((u3 - x1).toNat + 1) (u3) (u4) (by have a0 : u3 < x2 := of_decide_eq_true (h.at 0 rfl); refine ⟨?_, ?_, ?_⟩ <;> (omega)) (by have a0 : u3 < x2 := of_decide_eq_true (h.at 0 rfl); omega)) rfl)
  (ll_nil)⟩
   (rn_cons rk_sI_l3 (c := (!(decide ((u3 : Int) < x2)))) rfl (fun hc0 => rn_exit rfl rfl) (fun hc0 => rn_last (rn_go rfl (lp_sI_l3 x0 x1 x2 hb0 h0 h1 h2 n ((iAdd .i64 u3 1)) (r5.2) (by have g0_0 : u3 < x2 := of_decide_eq_true (bn_f hc0); refine ⟨?_, ?_, ?_, ?_⟩ <;> (omega)) (by have g0_0 : u3 < x2 := of_decide_eq_true (bn_f hc0); omega)))))
theorem e_sI : sFnW Try.prog xBase iBase mdI (fcI kA 124 [7, 6, 25, 21, 22, 24, 23, 20] [(0, (.mk [1, 2, 3] (.mk [(6, (.sc (.int .i64)))] [] [(2, 2)] 8) [(.normal, (.mk [] [] [(2, 2)] 8))])), (2, (.mk [1, 2, 3, 6] (.mk [(7, (.sc (.int .i64)))] [] [(2, 2)] 13) [(.normal, (.mk [(7, (.sc (.int .i64)))] [] [(2, 2)] 13))]))]) 3 200 124 [zz7, zz60, zz47] 3 zz50 [(2, 2)] 4 = some ⟨[((.lb true), (.tup [(.tup []), (.sc .sl (.var 3 []))]))],
 [],
 [(.mk [] 3 2 [(.sc (.int .i64) (.bin .add (.int .i64) (.var 1 []) (.li 1))), (.sc .sl (.var 0 []))] zz100 [] zz5 [1] [])]⟩ := by kernel_rfl
theorem pw_sI (x0 : List GKey) (x1 : Int) (x2 : Int) (h0 : 0 ≤ x1) (h1 : x2 ≤ x0.length) (h2 : x1 ≤ x0.length) : PWL Try.prog 124 [(.agg [(.fn (.func 64) [] [(.op 3 1 0 0)]), (.fn (.func 123) [] [(.os 2 2 0 (List.map GKey.enc x0).length), (.p (Cv.val (.at 1 24)))])]), (.p (.int .i64 x1)), (.p (.int .i64 x2))] [(3, .rows 1 [[(.os 2 2 0 (List.map GKey.enc x0).length)]]), (2, .rows 2 (List.map GKey.enc x0))] 4 (.tup []) [(3, .rows 1 [[(.os 2 2 0 (List.map GKey.enc x0).length)]]), (2, .rows 2 (List.map GKey.enc (sI x0 x1 x2)))] := pw_bnd fun hb =>
 have hb0 : x0.length ≤ 4294967296 := by have := hb; simp only [bndL, AV.bnd, List.length_map] at this; omega
 let r3 : List GKey := sI_l3 x1 x2 ((x2 : Int).toNat + 1) (iAdd .i64 x1 1) x0
 have ia0 : (iAdd .i64 x1 1) = x1 + 1 := iAddC (by omega) (by omega)
 mk_pw (ρ := [(.sl (List.map GKey.enc x0) false), (.p (.int .i64 x1)), (.p (.int .i64 x2)), (.sl (List.map GKey.enc r3) false)]) (cs := [(.sl (List.map GKey.enc (sI x0 x1 x2)) false)]) hmix xBase_ok iBase_ok e_sI (fzc (fzs GKey.fzL _) (fzc rfl (fzc rfl (fzc (fzs GKey.fzL _) (fzn)))))
  (sn)
  (ll_cons (lo_mk1 ((x2 : Int).toNat + 1) [(.sl (List.map GKey.enc r3) false)] rfl (fun h hb => lp_sI_l3 x0 x1 x2  hb0 h0 h1 h2 ((x2 : Int).toNat + 1) ((iAdd .i64 x1 1)) (x0) (by skip; refine ⟨?_, ?_, ?_, ?_⟩ <;> (omega)) (by skip; omega)) rfl)
  (ll_nil))
  rfl rfl (selL rfl) rfl
theorem pwL_sI (x0 : List GKey) (x1 : Int) (x2 : Int) (L0 : Nat) (hL0 : L0 = x0.length) (h0 : 0 ≤ x1) (h1 : x2 ≤ x0.length) (h2 : x1 ≤ x0.length) : PWL Try.prog 124 [(.agg [(.fn (.func 64) [] [(.op 3 1 0 0)]), (.fn (.func 123) [] [(.os 2 2 0 L0), (.p (Cv.val (.at 1 24)))])]), (.p (.int .i64 x1)), (.p (.int .i64 x2))] [(3, .rows 1 [[(.os 2 2 0 L0)]]), (2, .rows 2 (List.map GKey.enc x0))] 4 (.tup []) [(3, .rows 1 [[(.os 2 2 0 L0)]]), (2, .rows 2 (List.map GKey.enc (sI x0 x1 x2)))] := by
 have := pw_sI x0 x1 x2 h0 h1 h2
 simp only [List.length_map] at this
 subst hL0
 exact this
def rk_sW_l4 (r : List GKey) : Nat × List AV := (0, [(.sl (List.map GKey.enc r) false)])
theorem lp_sW_l4 (x0 : List GKey) (x1 : Int) (x2 : Int) (x3 : Int) (hb0 : x0.length ≤ 4294967296) (h0 : 0 ≤ x1) (h1 : 0 ≤ x2) (h2 : 0 ≤ x3) (h3 : x1 + x3 ≤ x0.length) (h4 : x2 + x3 ≤ x0.length) : ∀ (n : Nat) (u4 : Int) (u5 : List GKey), (0 ≤ u4 ∧ u5.length = x0.length ∧ u4 ≤ x3) → (x3 - u4).toNat < n → RunN (fun σ => SidesOk Try.prog σ [(zz23, (.tm (.bin .leq (.int .i64) (.li 0) zz63))),
  zz136,
  (zz23, (.tm (.bin .leq (.int .i64) (.li 0) zz64))),
  zz137,
  (zz23, (.row (.var 5 []) zz63 zz28)),
  (zz23, (.row (.var 5 []) zz64 zz25)),
  (zz23, (.st (.var 5 []) zz63 0 zz25 (.var 8 []))),
  (zz23, (.st (.var 8 []) zz64 0 zz28 (.var 9 []))),
  zz123] ∧ LoL Try.prog [] σ)
  zz101
  [(.sl (List.map GKey.enc x0) false), (.p (.int .i64 x1)), (.p (.int .i64 x2)), (.p (.int .i64 x3))] 2 n [(.p (.int .i64 u4)), (.sl (List.map GKey.enc u5) false)] (rk_sW_l4 (sW_l4 x1 x2 x3 n u4 u5)).1 (rk_sW_l4 (sW_l4 x1 x2 x3 n u4 u5)).2
 | 0, u4, u5, hi, hm => absurd hm (Nat.not_lt_zero _)
 | n + 1, u4, u5, hi, hm =>
  let v6 : GKey := u5.getD ((iAdd .i64 x1 u4) : Int).toNat default
  let v7 : GKey := u5.getD ((iAdd .i64 x2 u4) : Int).toNat default
  let v8 : List GKey := u5.set ((iAdd .i64 x1 u4) : Int).toNat v7
  let v9 : List GKey := v8.set ((iAdd .i64 x2 u4) : Int).toNat v6
  have ia0 : (iAdd .i64 x1 u4) = x1 + u4 := iAddC (by omega) (by omega)
  have ia1 : (iAdd .i64 x2 u4) = x2 + u4 := iAddC (by omega) (by omega)
  have ia2 : (iAdd .i64 u4 1) = u4 + 1 := iAddC (by omega) (by omega)
  rn_mk (r := rk_sW_l4 (sW_l4 x1 x2 x3 (n + 1) u4 u5)) [(GKey.av v6), (GKey.av v7), (.sl (List.map GKey.enc v8) false), (.sl (List.map GKey.enc v9) false)] [(.sl (List.map GKey.enc x0) false), (.p (.int .i64 x1)), (.p (.int .i64 x2)), (.p (.int .i64 x3)), (.p (.int .i64 u4)), (.sl (List.map GKey.enc u5) false), (GKey.av v6), (GKey.av v7), (.sl (List.map GKey.enc v8) false), (.sl (List.map GKey.enc v9) false)] rfl rfl (fzc (fzs GKey.fzL _) (fzc rfl (fzc rfl (fzc rfl (fzc rfl (fzc (fzs GKey.fzL _) (fzc (GKey.fz _) (fzc (GKey.fz _) (fzc (fzs GKey.fzL _) (fzc (fzs GKey.fzL _) (fzn))))))))))) ⟨SidesC.ok (sc (fun h => decide_eq_true (p := (0 : Int) ≤ (iAdd .i64 x1 u4)) (by have a0 : u4 < x3 := of_decide_eq_true (h.at 0 rfl); omega))
   (sc (fun h => decide_eq_true (p := ((iAdd .i64 x1 u4) : Int) < (mLen GKey.enc u5)) (by have a0 : u4 < x3 := of_decide_eq_true (h.at 0 rfl); (simp only [lens, v8, v9] <;> omega)))
   (sc (fun h => decide_eq_true (p := (0 : Int) ≤ (iAdd .i64 x2 u4)) (by have a0 : u4 < x3 := of_decide_eq_true (h.at 0 rfl); omega))
   (sc (fun h => decide_eq_true (p := ((iAdd .i64 x2 u4) : Int) < (mLen GKey.enc u5)) (by have a0 : u4 < x3 := of_decide_eq_true (h.at 0 rfl); (simp only [lens, v8, v9] <;> omega)))
   (sc (fun h => row_i (i := (iAdd .i64 x1 u4)) (by have a0 : u4 < x3 := of_decide_eq_true (h.at 0 rfl); omega) (by have a0 : u4 < x3 := of_decide_eq_true (h.at 0 rfl); omega))
   (sc (fun h => row_i (i := (iAdd .i64 x2 u4)) (by have a0 : u4 < x3 := of_decide_eq_true (h.at 0 rfl); omega) (by have a0 : u4 < x3 := of_decide_eq_true (h.at 0 rfl); omega))
   (sc (fun h => st_side (off := 0) (cells := denL _ zz25) (f := GKey.enc) (l := u5) (i := (iAdd .i64 x1 u4)) (n := 2) v7 (by have a0 : u4 < x3 := of_decide_eq_true (h.at 0 rfl); omega) (by have a0 : u4 < x3 := of_decide_eq_true (h.at 0 rfl); omega) (fun _ => rfl) rfl rfl)
   (sc (fun h => st_side (off := 0) (cells := denL _ zz28) (f := GKey.enc) (l := v8) (i := (iAdd .i64 x2 u4)) (n := 2) v6 (by have a0 : u4 < x3 := of_decide_eq_true (h.at 0 rfl); omega) (by have a0 : u4 < x3 := of_decide_eq_true (h.at 0 rfl); (simp only [lens, v8, v9] <;> omega)) (fun _ => rfl) rfl rfl)
   (sc (fun h => iEq_t.2 (show ((mLen GKey.enc x0) : Int) = (mLen GKey.enc u5) from (by have a0 : u4 < x3 := of_decide_eq_true (h.at 0 rfl); (simp only [lens, v8, v9] <;> omega))))
   (sn)))))))))),
   ll_nil⟩
   (rn_cons rk_sW_l4 (c := (!(decide ((u4 : Int) < x3)))) rfl (fun hc0 => rn_exit rfl rfl) (fun hc0 => rn_last (rn_go rfl (lp_sW_l4 x0 x1 x2 x3 hb0 h0 h1 h2 h3 h4 n ((iAdd .i64 u4 1)) (v9) (by have g0_0 : u4 < x3 := of_decide_eq_true (bn_f hc0); refine ⟨?_, ?_, ?_⟩ <;> ((simp [lens, v8, v9, *] <;> omega))) (by have g0_0 : u4 < x3 := of_decide_eq_true (bn_f hc0); omega)))))
theorem e_sW : sFnW Try.prog xBase iBase mdI (fcI kA 154 [8] [(0, (.mk [1, 2, 3, 4] (.mk [(8, (.sc (.int .i64)))] [] [(2, 2)] 6) [(.normal, (.mk [] [] [(2, 2)] 6))]))]) 3 200 154 [zz7, zz60, zz47, zz48] 4 zz50 [(2, 2)] 4 = some ⟨[((.lb true), (.tup [(.tup []), (.sc .sl (.var 4 []))]))],
 [],
 [(.mk [] 4 2 [(.sc (.int .i64) (.li 0)), (.sc .sl (.var 0 []))] zz101 [(zz23, (.tm (.bin .leq (.int .i64) (.li 0) zz63))), zz136, (zz23, (.tm (.bin .leq (.int .i64) (.li 0) zz64))), zz137, (zz23, (.row (.var 5 []) zz63 zz28)), (zz23, (.row (.var 5 []) zz64 zz25)), (zz23, (.st (.var 5 []) zz63 0 zz25 (.var 8 []))), (zz23, (.st (.var 8 []) zz64 0 zz28 (.var 9 []))), zz123] [] [1] [])]⟩ := by kernel_rfl
theorem pw_sW (x0 : List GKey) (x1 : Int) (x2 : Int) (x3 : Int) (h0 : 0 ≤ x1) (h1 : 0 ≤ x2) (h2 : 0 ≤ x3) (h3 : x1 + x3 ≤ x0.length) (h4 : x2 + x3 ≤ x0.length) : PWL Try.prog 154 [(.agg [(.fn (.func 64) [] [(.op 3 1 0 0)]), (.fn (.func 123) [] [(.os 2 2 0 (List.map GKey.enc x0).length), (.p (Cv.val (.at 1 24)))])]), (.p (.int .i64 x1)), (.p (.int .i64 x2)), (.p (.int .i64 x3))] [(3, .rows 1 [[(.os 2 2 0 (List.map GKey.enc x0).length)]]), (2, .rows 2 (List.map GKey.enc x0))] 4 (.tup []) [(3, .rows 1 [[(.os 2 2 0 (List.map GKey.enc x0).length)]]), (2, .rows 2 (List.map GKey.enc (sW x0 x1 x2 x3)))] := pw_bnd fun hb =>
 have hb0 : x0.length ≤ 4294967296 := by have := hb; simp only [bndL, AV.bnd, List.length_map] at this; omega
 let r4 : List GKey := sW_l4 x1 x2 x3 ((x3 : Int).toNat + 1) 0 x0
 mk_pw (ρ := [(.sl (List.map GKey.enc x0) false), (.p (.int .i64 x1)), (.p (.int .i64 x2)), (.p (.int .i64 x3)), (.sl (List.map GKey.enc r4) false)]) (cs := [(.sl (List.map GKey.enc (sW x0 x1 x2 x3)) false)]) hmix xBase_ok iBase_ok e_sW (fzc (fzs GKey.fzL _) (fzc rfl (fzc rfl (fzc rfl (fzc (fzs GKey.fzL _) (fzn))))))
  (sn)
  (ll_cons (lo_mk1 ((x3 : Int).toNat + 1) [(.sl (List.map GKey.enc r4) false)] rfl (fun h hb => lp_sW_l4 x0 x1 x2 x3  hb0 h0 h1 h2 h3 h4 ((x3 : Int).toNat + 1) (0) (x0) (by skip; refine ⟨?_, ?_, ?_⟩ <;> (omega)) (by skip; omega)) rfl)
  (ll_nil))
  rfl rfl (selL rfl) rfl
theorem pwL_sW (x0 : List GKey) (x1 : Int) (x2 : Int) (x3 : Int) (L0 : Nat) (hL0 : L0 = x0.length) (h0 : 0 ≤ x1) (h1 : 0 ≤ x2) (h2 : 0 ≤ x3) (h3 : x1 + x3 ≤ x0.length) (h4 : x2 + x3 ≤ x0.length) : PWL Try.prog 154 [(.agg [(.fn (.func 64) [] [(.op 3 1 0 0)]), (.fn (.func 123) [] [(.os 2 2 0 L0), (.p (Cv.val (.at 1 24)))])]), (.p (.int .i64 x1)), (.p (.int .i64 x2)), (.p (.int .i64 x3))] [(3, .rows 1 [[(.os 2 2 0 L0)]]), (2, .rows 2 (List.map GKey.enc x0))] 4 (.tup []) [(3, .rows 1 [[(.os 2 2 0 L0)]]), (2, .rows 2 (List.map GKey.enc (sW x0 x1 x2 x3)))] := by
 have := pw_sW x0 x1 x2 x3 h0 h1 h2 h3 h4
 simp only [List.length_map] at this
 subst hL0
 exact this
def rk_sR_l4 (r : Int × List GKey) : Nat × List AV := (0, [(.p (.int .i64 r.1)), (.sl (List.map GKey.enc r.2) false)])
theorem lp_sR_l4 (x0 : List GKey) (x1 : Int) (x2 : Int) (x3 : Int) (hb0 : x0.length ≤ 4294967296) (h0 : 0 ≤ x1) (h1 : x1 < x2) (h2 : x2 < x3) (h3 : x3 ≤ x0.length) : ∀ (n : Nat) (u4 : Int) (u5 : Int) (u6 : List GKey), (0 < u4 ∧ 0 < u5 ∧ u4 ≤ x2 - x1 ∧ u5 ≤ x3 - x2 ∧ u6.length = x0.length) → (u4 + u5).toNat < n → RunN (fun σ => SidesOk Try.prog σ [zz57,
  zz46] ∧ LoL Try.prog [] σ)
  zz51
  [(.sl (List.map GKey.enc x0) false), (.p (.int .i64 x1)), (.p (.int .i64 x2)), (.p (.int .i64 x3))] 3 n [(.p (.int .i64 u4)), (.p (.int .i64 u5)), (.sl (List.map GKey.enc u6) false)] (rk_sR_l4 (sR_l4 x2 n u4 u5 u6)).1 (rk_sR_l4 (sR_l4 x2 n u4 u5 u6)).2
 | 0, u4, u5, u6, hi, hm => absurd hm (Nat.not_lt_zero _)
 | n + 1, u4, u5, u6, hi, hm =>
  let w7 : List GKey := sW u6 (iSub .i64 x2 u4) x2 u5
  let v7 : List GKey := w7
  let w9 : List GKey := sW u6 (iSub .i64 x2 u4) (iSub .i64 (iAdd .i64 x2 u5) u4) u4
  let v9 : List GKey := w9
  have hp7_0 : v7.length = u6.length := swapRange_len
  have hp9_0 : v9.length = u6.length := swapRange_len
  have ia0 : (iSub .i64 x2 u4) = x2 - u4 := iSubC (by omega) (by omega)
  have ia1 : (iAdd .i64 x2 u5) = x2 + u5 := iAddC (by omega) (by omega)
  have ia2 : (iSub .i64 (iAdd .i64 x2 u5) u4) = (iAdd .i64 x2 u5) - u4 := iSubC (by omega) (by omega)
  have ia3 : (iSub .i64 u4 u5) = u4 - u5 := iSubC (by omega) (by omega)
  have ia4 : (iSub .i64 u5 u4) = u5 - u4 := iSubC (by omega) (by omega)
  rn_mk (r := rk_sR_l4 (sR_l4 x2 (n + 1) u4 u5 u6)) [(.sl (List.map GKey.enc v7) false), undefA, (.sl (List.map GKey.enc v9) false), undefA] [(.sl (List.map GKey.enc x0) false), (.p (.int .i64 x1)), (.p (.int .i64 x2)), (.p (.int .i64 x3)), (.p (.int .i64 u4)), (.p (.int .i64 u5)), (.sl (List.map GKey.enc u6) false), (.sl (List.map GKey.enc v7) false), undefA, (.sl (List.map GKey.enc v9) false), undefA] rfl rfl (fzc (fzs GKey.fzL _) (fzc rfl (fzc rfl (fzc rfl (fzc rfl (fzc rfl (fzc (fzs GKey.fzL _) (fzc (fzs GKey.fzL _) (fzc rfl (fzc (fzs GKey.fzL _) (fzc rfl (fzn)))))))))))) ⟨SidesC.ok (sc (fun h => pwL_sW u6 (iSub .i64 x2 u4) x2 u5 ((List.map GKey.enc x0).length) (by first | (rw [List.length_map]; done) | (rw [List.length_map]; have a0 : u4 > u5 := of_decide_eq_true (h.at 0 rfl); have a1 : u4 ≠ u5 := iNe_t.1 (h.at 1 rfl); omega)) (by have a0 : u4 > u5 := of_decide_eq_true (h.at 0 rfl); have a1 : u4 ≠ u5 := iNe_t.1 (h.at 1 rfl); omega) (by have a0 : u4 > u5 := of_decide_eq_true (h.at 0 rfl); have a1 : u4 ≠ u5 := iNe_t.1 (h.at 1 rfl); omega) (by have a0 : u4 > u5 := of_decide_eq_true (h.at 0 rfl); have a1 : u4 ≠ u5 := iNe_t.1 (h.at 1 rfl); omega) (by have a0 : u4 > u5 := of_decide_eq_true (h.at 0 rfl); have a1 : u4 ≠ u5 := iNe_t.1 (h.at 1 rfl); omega) (by have a0 : u4 > u5 := of_decide_eq_true (h.at 0 rfl); have a1 : u4 ≠ u5 := iNe_t.1 (h.at 1 rfl); omega))
   (sc (fun h => pwL_sW u6 (iSub .i64 x2 u4) (iSub .i64 (iAdd .i64 x2 u5) u4) u4 ((List.map GKey.enc x0).length) (by first | (rw [List.length_map]; done) | (rw [List.length_map]; have a0 : ¬ u4 > u5 := of_decide_eq_false (h.at 0 rfl); have a1 : u4 ≠ u5 := iNe_t.1 (h.at 1 rfl); omega)) (by have a0 : ¬ u4 > u5 := of_decide_eq_false (h.at 0 rfl); have a1 : u4 ≠ u5 := iNe_t.1 (h.at 1 rfl); omega) (by have a0 : ¬ u4 > u5 := of_decide_eq_false (h.at 0 rfl); have a1 : u4 ≠ u5 := iNe_t.1 (h.at 1 rfl); omega) (by have a0 : ¬ u4 > u5 := of_decide_eq_false (h.at 0 rfl); have a1 : u4 ≠ u5 := iNe_t.1 (h.at 1 rfl); omega) (by have a0 : ¬ u4 > u5 := of_decide_eq_false (h.at 0 rfl); have a1 : u4 ≠ u5 := iNe_t.1 (h.at 1 rfl); omega) (by have a0 : ¬ u4 > u5 := of_decide_eq_false (h.at 0 rfl); have a1 : u4 ≠ u5 := iNe_t.1 (h.at 1 rfl); omega))
   (sn))),
   ll_nil⟩
   (rn_cons rk_sR_l4 (c := (!(iNe u4 u5))) rfl (fun hc0 => rn_exit rfl rfl) (fun hc0 => rn_cons rk_sR_l4 (c := (decide ((u4 : Int) > u5))) rfl (fun hc1 => rn_go rfl (lp_sR_l4 x0 x1 x2 x3 hb0 h0 h1 h2 h3 n ((iSub .i64 u4 u5)) (u5) (v7) (by have g0_0 : u4 ≠ u5 := iNe_t.1 (bn_f hc0); have g1_0 : u4 > u5 := of_decide_eq_true hc1; refine ⟨?_, ?_, ?_, ?_, ?_⟩ <;> (omega)) (by have g0_0 : u4 ≠ u5 := iNe_t.1 (bn_f hc0); have g1_0 : u4 > u5 := of_decide_eq_true hc1; omega))) (fun hc1 => rn_last (rn_go rfl (lp_sR_l4 x0 x1 x2 x3 hb0 h0 h1 h2 h3 n (u4) ((iSub .i64 u5 u4)) (v9) (by have g0_0 : u4 ≠ u5 := iNe_t.1 (bn_f hc0); have g1_0 : ¬ u4 > u5 := of_decide_eq_false hc1; refine ⟨?_, ?_, ?_, ?_, ?_⟩ <;> (omega)) (by have g0_0 : u4 ≠ u5 := iNe_t.1 (bn_f hc0); have g1_0 : ¬ u4 > u5 := of_decide_eq_false hc1; omega))))))
theorem e_sR : sFnW Try.prog xBase iBase mdI (fcI kA 146 [1, 2, 3, 4, 8, 9, 18, 21] [(0, (.mk [2, 4] (.mk [(8, (.sc (.int .i64))), (9, (.sc (.int .i64)))] [] [(2, 2)] 13) [(.normal, (.mk [(8, (.sc (.int .i64)))] [] [(2, 2)] 13))]))]) 3 200 146 [zz7, zz60, zz47, zz48] 4 zz50 [(2, 2)] 4 = some ⟨[((.lb true), (.tup [(.tup []), (.sc .sl (.var 6 []))]))],
 [([], (.callw 154 [zz7, (.sc (.int .i64) (.bin .sub (.int .i64) (.var 2 []) (.var 4 []))), zz47, (.sc (.int .i64) (.var 4 []))] [(3, (.rows 1 [zz13])), (2, (.rowsT 2 (.var 5 [])))] 4 (.tup []) [(3, (.rows 1 [zz13])), (2, (.rowsT 2 (.var 6 [])))]))],
 [(.mk [] 4 3 [(.sc (.int .i64) (.bin .sub (.int .i64) (.var 2 []) (.var 1 []))), (.sc (.int .i64) (.bin .sub (.int .i64) (.var 3 []) (.var 2 []))), (.sc .sl (.var 0 []))] zz51 [zz57, zz46] [] [2] [])]⟩ := by kernel_rfl
theorem pw_sR (x0 : List GKey) (x1 : Int) (x2 : Int) (x3 : Int) (h0 : 0 ≤ x1) (h1 : x1 < x2) (h2 : x2 < x3) (h3 : x3 ≤ x0.length) : PWL Try.prog 146 [(.agg [(.fn (.func 64) [] [(.op 3 1 0 0)]), (.fn (.func 123) [] [(.os 2 2 0 (List.map GKey.enc x0).length), (.p (Cv.val (.at 1 24)))])]), (.p (.int .i64 x1)), (.p (.int .i64 x2)), (.p (.int .i64 x3))] [(3, .rows 1 [[(.os 2 2 0 (List.map GKey.enc x0).length)]]), (2, .rows 2 (List.map GKey.enc x0))] 4 (.tup []) [(3, .rows 1 [[(.os 2 2 0 (List.map GKey.enc x0).length)]]), (2, .rows 2 (List.map GKey.enc (sR x0 x1 x2 x3)))] := pw_bnd fun hb =>
 have hb0 : x0.length ≤ 4294967296 := by have := hb; simp only [bndL, AV.bnd, List.length_map] at this; omega
 let r4 : Int × List GKey := sR_l4 x2 ((x3 - x1).toNat + 1) (iSub .i64 x2 x1) (iSub .i64 x3 x2) x0
 let w6 : List GKey := sW r4.2 (iSub .i64 x2 r4.1) x2 r4.1
 let v6 : List GKey := w6
 have hp4_0 : 0 < r4.1 ∧ r4.1 ≤ x2 - x1 ∧ r4.1 ≤ x3 - x2 ∧ r4.2.length = x0.length := rotate_l4_bd h0 h1 h2 h3 hb0
 have hp6_0 : v6.length = r4.2.length := swapRange_len
 have ia0 : (iSub .i64 x2 r4.1) = x2 - r4.1 := iSubC (by omega) (by omega)
 have ia1 : (iSub .i64 x2 x1) = x2 - x1 := iSubC (by omega) (by omega)
 have ia2 : (iSub .i64 x3 x2) = x3 - x2 := iSubC (by omega) (by omega)
 mk_pw (ρ := [(.sl (List.map GKey.enc x0) false), (.p (.int .i64 x1)), (.p (.int .i64 x2)), (.p (.int .i64 x3)), (.p (.int .i64 r4.1)), (.sl (List.map GKey.enc r4.2) false), (.sl (List.map GKey.enc v6) false), undefA]) (cs := [(.sl (List.map GKey.enc (sR x0 x1 x2 x3)) false)]) hmix xBase_ok iBase_ok e_sR (fzc (fzs GKey.fzL _) (fzc rfl (fzc rfl (fzc rfl (fzc rfl (fzc (fzs GKey.fzL _) (fzc (fzs GKey.fzL _) (fzc rfl (fzn)))))))))
  (sc (fun h => pwL_sW r4.2 (iSub .i64 x2 r4.1) x2 r4.1 ((List.map GKey.enc x0).length) (by first | (rw [List.length_map]; done) | (rw [List.length_map]; omega)) (by omega) (by omega) (by omega) (by omega) (by omega))
  (sn))
  (ll_cons (lo_mk1 ((x3 - x1).toNat + 1) [(.p (.int .i64 r4.1)), (.sl (List.map GKey.enc r4.2) false)] rfl (fun h hb => lp_sR_l4 x0 x1 x2 x3  hb0 h0 h1 h2 h3 ((x3 - x1).toNat + 1) ((iSub .i64 x2 x1)) ((iSub .i64 x3 x2)) (x0) (by skip; refine ⟨?_, ?_, ?_, ?_, ?_⟩ <;> (omega)) (by skip; omega)) rfl)
  (ll_nil))
  rfl rfl (selL rfl) rfl
theorem pwL_sR (x0 : List GKey) (x1 : Int) (x2 : Int) (x3 : Int) (L0 : Nat) (hL0 : L0 = x0.length) (h0 : 0 ≤ x1) (h1 : x1 < x2) (h2 : x2 < x3) (h3 : x3 ≤ x0.length) : PWL Try.prog 146 [(.agg [(.fn (.func 64) [] [(.op 3 1 0 0)]), (.fn (.func 123) [] [(.os 2 2 0 L0), (.p (Cv.val (.at 1 24)))])]), (.p (.int .i64 x1)), (.p (.int .i64 x2)), (.p (.int .i64 x3))] [(3, .rows 1 [[(.os 2 2 0 L0)]]), (2, .rows 2 (List.map GKey.enc x0))] 4 (.tup []) [(3, .rows 1 [[(.os 2 2 0 L0)]]), (2, .rows 2 (List.map GKey.enc (sR x0 x1 x2 x3)))] := by
 have := pw_sR x0 x1 x2 x3 h0 h1 h2 h3
 simp only [List.length_map] at this
 subst hL0
 exact this
def rk_sM_l4 (r : Int) : Nat × List AV := (0, [(.p (.int .i64 r))])
theorem lp_sM_l4 (x0 : List GKey) (x1 : Int) (x2 : Int) (x3 : Int) (hb0 : x0.length ≤ 4294967296) (h0 : 0 ≤ x1) (h1 : x1 < x2) (h2 : x2 < x3) (h3 : x3 ≤ x0.length) : ∀ (n : Nat) (u4 : Int) (u5 : Int), (x2 ≤ u4 ∧ u4 ≤ u5 ∧ u5 ≤ x3) → (u5 - u4).toNat < n → RunN (fun σ => SidesOk Try.prog σ [(zz18, (.tm (.bin .leq (.int .i64) (.li 0) zz21))),
  zz138,
  (zz18, (.rd (true, 2) (.var 0 []) zz21 0 (.agg zz28))),
  zz115,
  zz148,
  zz129,
  zz144,
  (zz18, (.call 65 [(.agg zz34)] (.tup zz90)))] ∧ LoL Try.prog [] σ)
  zz39
  [(.sl (List.map GKey.enc x0) false), (.p (.int .i64 x1)), (.p (.int .i64 x2)), (.p (.int .i64 x3))] 2 n [(.p (.int .i64 u4)), (.p (.int .i64 u5))] (rk_sM_l4 (sM_l4 x0 x1 n u4 u5)).1 (rk_sM_l4 (sM_l4 x0 x1 n u4 u5)).2
 | 0, u4, u5, hi, hm => absurd hm (Nat.not_lt_zero _)
 | n + 1, u4, u5, hi, hm =>
  let v6 : GKey := x0.getD ((IntKind.wrap .i64 (iShr .u64 (IntKind.wrap .u64 (iAdd .i64 u4 u5)) 1)) : Int).toNat default
  let v7 : Int × Int := key_place v6
  let v8 : GKey := x0.getD (x1 : Int).toNat default
  let v9 : Int × Int := key_place v8
  have ia0 : (iSub .i64 x2 x1) = x2 - x1 := iSubC (by omega) (by omega)
  have ia1 : (iAdd .i64 u4 u5) = u4 + u5 := iAddC (by omega) (by omega)
  have ia2 : (IntKind.wrap .i64 (iShr .u64 (IntKind.wrap .u64 (iAdd .i64 u4 u5)) 1)) = (iAdd .i64 u4 u5) / 2 := midC (x := (iAdd .i64 u4 u5)) (by omega) (by omega)
  have ia3 : (iAdd .i64 (IntKind.wrap .i64 (iShr .u64 (IntKind.wrap .u64 (iAdd .i64 u4 u5)) 1)) 1) = (IntKind.wrap .i64 (iShr .u64 (IntKind.wrap .u64 (iAdd .i64 u4 u5)) 1)) + 1 := iAddC (by omega) (by omega)
  have ia4 : (b2i (((decide ((v7.1 : Int) < v9.1)) || ((iEq v7.1 v9.1) && (decide ((v7.2 : Int) < v9.2))))) = 1 ∧ (bif ((decide ((v7.1 : Int) < v9.1)) || ((iEq v7.1 v9.1) && (decide ((v7.2 : Int) < v9.2)))) then (iAdd .i64 (IntKind.wrap .i64 (iShr .u64 (IntKind.wrap .u64 (iAdd .i64 u4 u5)) 1)) 1) else u4) = (iAdd .i64 (IntKind.wrap .i64 (iShr .u64 (IntKind.wrap .u64 (iAdd .i64 u4 u5)) 1)) 1)) ∨ (b2i (((decide ((v7.1 : Int) < v9.1)) || ((iEq v7.1 v9.1) && (decide ((v7.2 : Int) < v9.2))))) = 0 ∧ (bif ((decide ((v7.1 : Int) < v9.1)) || ((iEq v7.1 v9.1) && (decide ((v7.2 : Int) < v9.2)))) then (iAdd .i64 (IntKind.wrap .i64 (iShr .u64 (IntKind.wrap .u64 (iAdd .i64 u4 u5)) 1)) 1) else u4) = u4) := iteB
  have ia5 : (b2i (((decide ((v7.1 : Int) < v9.1)) || ((iEq v7.1 v9.1) && (decide ((v7.2 : Int) < v9.2))))) = 1 ∧ (bif ((decide ((v7.1 : Int) < v9.1)) || ((iEq v7.1 v9.1) && (decide ((v7.2 : Int) < v9.2)))) then u5 else (IntKind.wrap .i64 (iShr .u64 (IntKind.wrap .u64 (iAdd .i64 u4 u5)) 1))) = u5) ∨ (b2i (((decide ((v7.1 : Int) < v9.1)) || ((iEq v7.1 v9.1) && (decide ((v7.2 : Int) < v9.2))))) = 0 ∧ (bif ((decide ((v7.1 : Int) < v9.1)) || ((iEq v7.1 v9.1) && (decide ((v7.2 : Int) < v9.2)))) then u5 else (IntKind.wrap .i64 (iShr .u64 (IntKind.wrap .u64 (iAdd .i64 u4 u5)) 1))) = (IntKind.wrap .i64 (iShr .u64 (IntKind.wrap .u64 (iAdd .i64 u4 u5)) 1))) := iteB
  rn_mk (r := rk_sM_l4 (sM_l4 x0 x1 (n + 1) u4 u5)) [(GKey.av v6), (eR_ii64_ii64 v7), (GKey.av v8), (eR_ii64_ii64 v9)] [(.sl (List.map GKey.enc x0) false), (.p (.int .i64 x1)), (.p (.int .i64 x2)), (.p (.int .i64 x3)), (.p (.int .i64 u4)), (.p (.int .i64 u5)), (GKey.av v6), (eR_ii64_ii64 v7), (GKey.av v8), (eR_ii64_ii64 v9)] rfl rfl (fzc (fzs GKey.fzL _) (fzc rfl (fzc rfl (fzc rfl (fzc rfl (fzc rfl (fzc (GKey.fz _) (fzc (show (eR_ii64_ii64 v7).fz = true from (fzc rfl (fzc rfl (fzn)) : fzL _ = true)) (fzc (GKey.fz _) (fzc (show (eR_ii64_ii64 v9).fz = true from (fzc rfl (fzc rfl (fzn)) : fzL _ = true)) (fzn))))))))))) ⟨SidesC.ok (sc (fun h => decide_eq_true (p := (0 : Int) ≤ (IntKind.wrap .i64 (iShr .u64 (IntKind.wrap .u64 (iAdd .i64 u4 u5)) 1))) (by have a0 : u4 < u5 := of_decide_eq_true (h.at 0 rfl); have a1 : (iSub .i64 x2 x1) = 1 := iEq_t.1 (h.at 1 rfl); omega))
   (sc (fun h => decide_eq_true (p := ((IntKind.wrap .i64 (iShr .u64 (IntKind.wrap .u64 (iAdd .i64 u4 u5)) 1)) : Int) < (mLen GKey.enc x0)) (by have a0 : u4 < u5 := of_decide_eq_true (h.at 0 rfl); have a1 : (iSub .i64 x2 x1) = 1 := iEq_t.1 (h.at 1 rfl); (simp only [lens] <;> omega)))
   (sc (fun h => rd_side (f := GKey.enc) (l := x0) (i := (IntKind.wrap .i64 (iShr .u64 (IntKind.wrap .u64 (iAdd .i64 u4 u5)) 1))) (n := 2) (by have a0 : u4 < u5 := of_decide_eq_true (h.at 0 rfl); have a1 : (iSub .i64 x2 x1) = 1 := iEq_t.1 (h.at 1 rfl); omega) (by have a0 : u4 < u5 := of_decide_eq_true (h.at 0 rfl); have a1 : (iSub .i64 x2 x1) = 1 := iEq_t.1 (h.at 1 rfl); omega) (fun _ => rfl) (by first | exact ⟨Nat.le_of_ble_eq_true rfl, rfl⟩ | exact rfl))
   (sc (fun _ => pc_key_place (v6))
   (sc (fun h => decide_eq_true (p := (0 : Int) ≤ x1) (by have a0 : u4 < u5 := of_decide_eq_true (h.at 0 rfl); have a1 : (iSub .i64 x2 x1) = 1 := iEq_t.1 (h.at 1 rfl); omega))
   (sc (fun h => decide_eq_true (p := (x1 : Int) < (mLen GKey.enc x0)) (by have a0 : u4 < u5 := of_decide_eq_true (h.at 0 rfl); have a1 : (iSub .i64 x2 x1) = 1 := iEq_t.1 (h.at 1 rfl); (simp only [lens] <;> omega)))
   (sc (fun h => rd_side (f := GKey.enc) (l := x0) (i := x1) (n := 2) (by have a0 : u4 < u5 := of_decide_eq_true (h.at 0 rfl); have a1 : (iSub .i64 x2 x1) = 1 := iEq_t.1 (h.at 1 rfl); omega) (by have a0 : u4 < u5 := of_decide_eq_true (h.at 0 rfl); have a1 : (iSub .i64 x2 x1) = 1 := iEq_t.1 (h.at 1 rfl); omega) (fun _ => rfl) (by first | exact ⟨Nat.le_of_ble_eq_true rfl, rfl⟩ | exact rfl))
   (sc (fun _ => pc_key_place (v8))
   (sn))))))))),
   ll_nil⟩
   (rn_cons rk_sM_l4 (c := (!(decide ((u4 : Int) < u5)))) rfl (fun hc0 => rn_exit rfl rfl) (fun hc0 => rn_last (rn_go rfl (lp_sM_l4 x0 x1 x2 x3 hb0 h0 h1 h2 h3 n ((bif ((decide ((v7.1 : Int) < v9.1)) || ((iEq v7.1 v9.1) && (decide ((v7.2 : Int) < v9.2)))) then (iAdd .i64 (IntKind.wrap .i64 (iShr .u64 (IntKind.wrap .u64 (iAdd .i64 u4 u5)) 1)) 1) else u4)) ((bif ((decide ((v7.1 : Int) < v9.1)) || ((iEq v7.1 v9.1) && (decide ((v7.2 : Int) < v9.2)))) then u5 else (IntKind.wrap .i64 (iShr .u64 (IntKind.wrap .u64 (iAdd .i64 u4 u5)) 1)))) (by have g0_0 : u4 < u5 := of_decide_eq_true (bn_f hc0); refine ⟨?_, ?_, ?_⟩ <;> (omega)) (by have g0_0 : u4 < u5 := of_decide_eq_true (bn_f hc0); omega)))))
def rk_sM_l5 (r : List GKey) : Nat × List AV := (0, [(.sl (List.map GKey.enc r) false)])
theorem lp_sM_l5 (x0 : List GKey) (x1 : Int) (x2 : Int) (x3 : Int) (r4 : Int) (hb0 : x0.length ≤ 4294967296) (h0 : 0 ≤ x1) (h1 : x1 < x2) (h2 : x2 < x3) (h3 : x3 ≤ x0.length) (q0 : r4 ≤ x3) (q1 : x2 ≤ r4) : ∀ (n : Nat) (u5 : Int) (u6 : List GKey), (0 ≤ u5 ∧ x1 ≤ u5 ∧ u6.length = x0.length ∧ u5 ≤ x3) → ((iSub .i64 r4 1) - u5).toNat < n → RunN (fun σ => SidesOk Try.prog σ [(zz11, (.tm zz107)),
  (zz11, (.tm zz113)),
  (zz11, (.tm (.bin .leq (.int .i64) (.li 0) zz58))),
  zz139,
  (zz11, (.row (.var 6 []) (.var 5 []) zz25)),
  (zz11, (.row (.var 6 []) zz58 zz34)),
  (zz11, (.st (.var 6 []) (.var 5 []) 0 zz34 (.var 9 []))),
  (zz11, (.st (.var 9 []) zz58 0 zz25 (.var 10 []))),
  (zz11, (.tm zz106))] ∧ LoL Try.prog [] σ)
  zz89
  [(.sl (List.map GKey.enc x0) false), (.p (.int .i64 x1)), (.p (.int .i64 x2)), (.p (.int .i64 x3)), (.p (.int .i64 r4))] 2 n [(.p (.int .i64 u5)), (.sl (List.map GKey.enc u6) false)] (rk_sM_l5 (sM_l5 r4 n u5 u6)).1 (rk_sM_l5 (sM_l5 r4 n u5 u6)).2
 | 0, u5, u6, hi, hm => absurd hm (Nat.not_lt_zero _)
 | n + 1, u5, u6, hi, hm =>
  let v7 : GKey := u6.getD (u5 : Int).toNat default
  let v8 : GKey := u6.getD ((iAdd .i64 u5 1) : Int).toNat default
  let v9 : List GKey := u6.set (u5 : Int).toNat v8
  let v10 : List GKey := v9.set ((iAdd .i64 u5 1) : Int).toNat v7
  have ia0 : (iSub .i64 r4 1) = r4 - 1 := iSubC (by omega) (by omega)
  have ia1 : (iSub .i64 x2 x1) = x2 - x1 := iSubC (by omega) (by omega)
  have ia2 : (iAdd .i64 u5 1) = u5 + 1 := iAddC (by omega) (by omega)
  rn_mk (r := rk_sM_l5 (sM_l5 r4 (n + 1) u5 u6)) [(GKey.av v7), (GKey.av v8), (.sl (List.map GKey.enc v9) false), (.sl (List.map GKey.enc v10) false)] [(.sl (List.map GKey.enc x0) false), (.p (.int .i64 x1)), (.p (.int .i64 x2)), (.p (.int .i64 x3)), (.p (.int .i64 r4)), (.p (.int .i64 u5)), (.sl (List.map GKey.enc u6) false), (GKey.av v7), (GKey.av v8), (.sl (List.map GKey.enc v9) false), (.sl (List.map GKey.enc v10) false)] rfl rfl (fzc (fzs GKey.fzL _) (fzc rfl (fzc rfl (fzc rfl (fzc rfl (fzc rfl (fzc (fzs GKey.fzL _) (fzc (GKey.fz _) (fzc (GKey.fz _) (fzc (fzs GKey.fzL _) (fzc (fzs GKey.fzL _) (fzn)))))))))))) ⟨SidesC.ok (sc (fun h => decide_eq_true (p := (0 : Int) ≤ u5) (by have a0 : u5 < (iSub .i64 r4 1) := of_decide_eq_true (h.at 0 rfl); have a1 : (iSub .i64 x2 x1) = 1 := iEq_t.1 (h.at 1 rfl); omega))
   (sc (fun h => decide_eq_true (p := (u5 : Int) < (mLen GKey.enc u6)) (by have a0 : u5 < (iSub .i64 r4 1) := of_decide_eq_true (h.at 0 rfl); have a1 : (iSub .i64 x2 x1) = 1 := iEq_t.1 (h.at 1 rfl); (simp only [lens, v9, v10] <;> omega)))
   (sc (fun h => decide_eq_true (p := (0 : Int) ≤ (iAdd .i64 u5 1)) (by have a0 : u5 < (iSub .i64 r4 1) := of_decide_eq_true (h.at 0 rfl); have a1 : (iSub .i64 x2 x1) = 1 := iEq_t.1 (h.at 1 rfl); omega))
   (sc (fun h => decide_eq_true (p := ((iAdd .i64 u5 1) : Int) < (mLen GKey.enc u6)) (by have a0 : u5 < (iSub .i64 r4 1) := of_decide_eq_true (h.at 0 rfl); have a1 : (iSub .i64 x2 x1) = 1 := iEq_t.1 (h.at 1 rfl); (simp only [lens, v9, v10] <;> omega)))
   (sc (fun h => row_i (i := u5) (by have a0 : u5 < (iSub .i64 r4 1) := of_decide_eq_true (h.at 0 rfl); have a1 : (iSub .i64 x2 x1) = 1 := iEq_t.1 (h.at 1 rfl); omega) (by have a0 : u5 < (iSub .i64 r4 1) := of_decide_eq_true (h.at 0 rfl); have a1 : (iSub .i64 x2 x1) = 1 := iEq_t.1 (h.at 1 rfl); omega))
   (sc (fun h => row_i (i := (iAdd .i64 u5 1)) (by have a0 : u5 < (iSub .i64 r4 1) := of_decide_eq_true (h.at 0 rfl); have a1 : (iSub .i64 x2 x1) = 1 := iEq_t.1 (h.at 1 rfl); omega) (by have a0 : u5 < (iSub .i64 r4 1) := of_decide_eq_true (h.at 0 rfl); have a1 : (iSub .i64 x2 x1) = 1 := iEq_t.1 (h.at 1 rfl); omega))
   (sc (fun h => st_side (off := 0) (cells := denL _ zz34) (f := GKey.enc) (l := u6) (i := u5) (n := 2) v8 (by have a0 : u5 < (iSub .i64 r4 1) := of_decide_eq_true (h.at 0 rfl); have a1 : (iSub .i64 x2 x1) = 1 := iEq_t.1 (h.at 1 rfl); omega) (by have a0 : u5 < (iSub .i64 r4 1) := of_decide_eq_true (h.at 0 rfl); have a1 : (iSub .i64 x2 x1) = 1 := iEq_t.1 (h.at 1 rfl); omega) (fun _ => rfl) rfl rfl)
   (sc (fun h => st_side (off := 0) (cells := denL _ zz25) (f := GKey.enc) (l := v9) (i := (iAdd .i64 u5 1)) (n := 2) v7 (by have a0 : u5 < (iSub .i64 r4 1) := of_decide_eq_true (h.at 0 rfl); have a1 : (iSub .i64 x2 x1) = 1 := iEq_t.1 (h.at 1 rfl); omega) (by have a0 : u5 < (iSub .i64 r4 1) := of_decide_eq_true (h.at 0 rfl); have a1 : (iSub .i64 x2 x1) = 1 := iEq_t.1 (h.at 1 rfl); (simp only [lens, v9, v10] <;> omega)) (fun _ => rfl) rfl rfl)
   (sc (fun h => iEq_t.2 (show ((mLen GKey.enc x0) : Int) = (mLen GKey.enc u6) from (by have a0 : u5 < (iSub .i64 r4 1) := of_decide_eq_true (h.at 0 rfl); have a1 : (iSub .i64 x2 x1) = 1 := iEq_t.1 (h.at 1 rfl); (simp only [lens, v9, v10] <;> omega))))
   (sn)))))))))),
   ll_nil⟩
   (rn_cons rk_sM_l5 (c := (!(decide ((u5 : Int) < (iSub .i64 r4 1))))) rfl (fun hc0 => rn_exit rfl rfl) (fun hc0 => rn_last (rn_go rfl (lp_sM_l5 x0 x1 x2 x3 r4 hb0 h0 h1 h2 h3 q0 q1 n ((iAdd .i64 u5 1)) (v10) (by have g0_0 : u5 < (iSub .i64 r4 1) := of_decide_eq_true (bn_f hc0); refine ⟨?_, ?_, ?_, ?_⟩ <;> ((simp [lens, v9, v10, *] <;> omega))) (by have g0_0 : u5 < (iSub .i64 r4 1) := of_decide_eq_true (bn_f hc0); omega)))))
def rk_sM_l6 (r : Int) : Nat × List AV := (0, [(.p (.int .i64 r))])
theorem lp_sM_l6 (x0 : List GKey) (x1 : Int) (x2 : Int) (x3 : Int) (r4 : Int) (r5 : List GKey) (hb0 : x0.length ≤ 4294967296) (h0 : 0 ≤ x1) (h1 : x1 < x2) (h2 : x2 < x3) (h3 : x3 ≤ x0.length) : ∀ (n : Nat) (u6 : Int) (u7 : Int), (x1 ≤ u6 ∧ u6 ≤ u7 ∧ u7 ≤ x2) → (u7 - u6).toNat < n → RunN (fun σ => SidesOk Try.prog σ [zz149,
  zz130,
  zz145,
  (zz17, (.call 65 [(.agg zz34)] (.tup zz90))),
  (zz17, (.tm (.bin .leq (.int .i64) (.li 0) zz22))),
  zz140,
  (zz17, (.rd (true, 2) (.var 0 []) zz22 0 (.agg zz31))),
  (zz17, (.call 65 [(.agg zz31)] (.tup zz88)))] ∧ LoL Try.prog [] σ)
  zz38
  [(.sl (List.map GKey.enc x0) false), (.p (.int .i64 x1)), (.p (.int .i64 x2)), (.p (.int .i64 x3)), (.p (.int .i64 r4)), (.sl (List.map GKey.enc r5) false)] 2 n [(.p (.int .i64 u6)), (.p (.int .i64 u7))] (rk_sM_l6 (sM_l6 x0 x2 n u6 u7)).1 (rk_sM_l6 (sM_l6 x0 x2 n u6 u7)).2
 | 0, u6, u7, hi, hm => absurd hm (Nat.not_lt_zero _)
 | n + 1, u6, u7, hi, hm =>
  let v8 : GKey := x0.getD (x2 : Int).toNat default
  let v9 : Int × Int := key_place v8
  let v10 : GKey := x0.getD ((IntKind.wrap .i64 (iShr .u64 (IntKind.wrap .u64 (iAdd .i64 u6 u7)) 1)) : Int).toNat default
  let v11 : Int × Int := key_place v10
  have ia0 : (iSub .i64 x3 x2) = x3 - x2 := iSubC (by omega) (by omega)
  have ia1 : (iSub .i64 x2 x1) = x2 - x1 := iSubC (by omega) (by omega)
  have ia2 : (iAdd .i64 u6 u7) = u6 + u7 := iAddC (by omega) (by omega)
  have ia3 : (IntKind.wrap .i64 (iShr .u64 (IntKind.wrap .u64 (iAdd .i64 u6 u7)) 1)) = (iAdd .i64 u6 u7) / 2 := midC (x := (iAdd .i64 u6 u7)) (by omega) (by omega)
  have ia4 : (iAdd .i64 (IntKind.wrap .i64 (iShr .u64 (IntKind.wrap .u64 (iAdd .i64 u6 u7)) 1)) 1) = (IntKind.wrap .i64 (iShr .u64 (IntKind.wrap .u64 (iAdd .i64 u6 u7)) 1)) + 1 := iAddC (by omega) (by omega)
  have ia5 : (b2i (((decide ((v9.1 : Int) < v11.1)) || ((iEq v9.1 v11.1) && (decide ((v9.2 : Int) < v11.2))))) = 1 ∧ (bif ((decide ((v9.1 : Int) < v11.1)) || ((iEq v9.1 v11.1) && (decide ((v9.2 : Int) < v11.2)))) then u6 else (iAdd .i64 (IntKind.wrap .i64 (iShr .u64 (IntKind.wrap .u64 (iAdd .i64 u6 u7)) 1)) 1)) = u6) ∨ (b2i (((decide ((v9.1 : Int) < v11.1)) || ((iEq v9.1 v11.1) && (decide ((v9.2 : Int) < v11.2))))) = 0 ∧ (bif ((decide ((v9.1 : Int) < v11.1)) || ((iEq v9.1 v11.1) && (decide ((v9.2 : Int) < v11.2)))) then u6 else (iAdd .i64 (IntKind.wrap .i64 (iShr .u64 (IntKind.wrap .u64 (iAdd .i64 u6 u7)) 1)) 1)) = (iAdd .i64 (IntKind.wrap .i64 (iShr .u64 (IntKind.wrap .u64 (iAdd .i64 u6 u7)) 1)) 1)) := iteB
  have ia6 : (b2i (((decide ((v9.1 : Int) < v11.1)) || ((iEq v9.1 v11.1) && (decide ((v9.2 : Int) < v11.2))))) = 1 ∧ (bif ((decide ((v9.1 : Int) < v11.1)) || ((iEq v9.1 v11.1) && (decide ((v9.2 : Int) < v11.2)))) then (IntKind.wrap .i64 (iShr .u64 (IntKind.wrap .u64 (iAdd .i64 u6 u7)) 1)) else u7) = (IntKind.wrap .i64 (iShr .u64 (IntKind.wrap .u64 (iAdd .i64 u6 u7)) 1))) ∨ (b2i (((decide ((v9.1 : Int) < v11.1)) || ((iEq v9.1 v11.1) && (decide ((v9.2 : Int) < v11.2))))) = 0 ∧ (bif ((decide ((v9.1 : Int) < v11.1)) || ((iEq v9.1 v11.1) && (decide ((v9.2 : Int) < v11.2)))) then (IntKind.wrap .i64 (iShr .u64 (IntKind.wrap .u64 (iAdd .i64 u6 u7)) 1)) else u7) = u7) := iteB
  rn_mk (r := rk_sM_l6 (sM_l6 x0 x2 (n + 1) u6 u7)) [(GKey.av v8), (eR_ii64_ii64 v9), (GKey.av v10), (eR_ii64_ii64 v11)] [(.sl (List.map GKey.enc x0) false), (.p (.int .i64 x1)), (.p (.int .i64 x2)), (.p (.int .i64 x3)), (.p (.int .i64 r4)), (.sl (List.map GKey.enc r5) false), (.p (.int .i64 u6)), (.p (.int .i64 u7)), (GKey.av v8), (eR_ii64_ii64 v9), (GKey.av v10), (eR_ii64_ii64 v11)] rfl rfl (fzc (fzs GKey.fzL _) (fzc rfl (fzc rfl (fzc rfl (fzc rfl (fzc (fzs GKey.fzL _) (fzc rfl (fzc rfl (fzc (GKey.fz _) (fzc (show (eR_ii64_ii64 v9).fz = true from (fzc rfl (fzc rfl (fzn)) : fzL _ = true)) (fzc (GKey.fz _) (fzc (show (eR_ii64_ii64 v11).fz = true from (fzc rfl (fzc rfl (fzn)) : fzL _ = true)) (fzn))))))))))))) ⟨SidesC.ok (sc (fun h => decide_eq_true (p := (0 : Int) ≤ x2) (by have a0 : u6 < u7 := of_decide_eq_true (h.at 0 rfl); have a1 : (iSub .i64 x3 x2) = 1 := iEq_t.1 (h.at 1 rfl); have a2 : (iSub .i64 x2 x1) ≠ 1 := iEq_f.1 (h.at 2 rfl); omega))
   (sc (fun h => decide_eq_true (p := (x2 : Int) < (mLen GKey.enc x0)) (by have a0 : u6 < u7 := of_decide_eq_true (h.at 0 rfl); have a1 : (iSub .i64 x3 x2) = 1 := iEq_t.1 (h.at 1 rfl); have a2 : (iSub .i64 x2 x1) ≠ 1 := iEq_f.1 (h.at 2 rfl); (simp only [lens] <;> omega)))
   (sc (fun h => rd_side (f := GKey.enc) (l := x0) (i := x2) (n := 2) (by have a0 : u6 < u7 := of_decide_eq_true (h.at 0 rfl); have a1 : (iSub .i64 x3 x2) = 1 := iEq_t.1 (h.at 1 rfl); have a2 : (iSub .i64 x2 x1) ≠ 1 := iEq_f.1 (h.at 2 rfl); omega) (by have a0 : u6 < u7 := of_decide_eq_true (h.at 0 rfl); have a1 : (iSub .i64 x3 x2) = 1 := iEq_t.1 (h.at 1 rfl); have a2 : (iSub .i64 x2 x1) ≠ 1 := iEq_f.1 (h.at 2 rfl); omega) (fun _ => rfl) (by first | exact ⟨Nat.le_of_ble_eq_true rfl, rfl⟩ | exact rfl))
   (sc (fun _ => pc_key_place (v8))
   (sc (fun h => decide_eq_true (p := (0 : Int) ≤ (IntKind.wrap .i64 (iShr .u64 (IntKind.wrap .u64 (iAdd .i64 u6 u7)) 1))) (by have a0 : u6 < u7 := of_decide_eq_true (h.at 0 rfl); have a1 : (iSub .i64 x3 x2) = 1 := iEq_t.1 (h.at 1 rfl); have a2 : (iSub .i64 x2 x1) ≠ 1 := iEq_f.1 (h.at 2 rfl); omega))
   (sc (fun h => decide_eq_true (p := ((IntKind.wrap .i64 (iShr .u64 (IntKind.wrap .u64 (iAdd .i64 u6 u7)) 1)) : Int) < (mLen GKey.enc x0)) (by have a0 : u6 < u7 := of_decide_eq_true (h.at 0 rfl); have a1 : (iSub .i64 x3 x2) = 1 := iEq_t.1 (h.at 1 rfl); have a2 : (iSub .i64 x2 x1) ≠ 1 := iEq_f.1 (h.at 2 rfl); (simp only [lens] <;> omega)))
   (sc (fun h => rd_side (f := GKey.enc) (l := x0) (i := (IntKind.wrap .i64 (iShr .u64 (IntKind.wrap .u64 (iAdd .i64 u6 u7)) 1))) (n := 2) (by have a0 : u6 < u7 := of_decide_eq_true (h.at 0 rfl); have a1 : (iSub .i64 x3 x2) = 1 := iEq_t.1 (h.at 1 rfl); have a2 : (iSub .i64 x2 x1) ≠ 1 := iEq_f.1 (h.at 2 rfl); omega) (by have a0 : u6 < u7 := of_decide_eq_true (h.at 0 rfl); have a1 : (iSub .i64 x3 x2) = 1 := iEq_t.1 (h.at 1 rfl); have a2 : (iSub .i64 x2 x1) ≠ 1 := iEq_f.1 (h.at 2 rfl); omega) (fun _ => rfl) (by first | exact ⟨Nat.le_of_ble_eq_true rfl, rfl⟩ | exact rfl))
   (sc (fun _ => pc_key_place (v10))
   (sn))))))))),
   ll_nil⟩
   (rn_cons rk_sM_l6 (c := (!(decide ((u6 : Int) < u7)))) rfl (fun hc0 => rn_exit rfl rfl) (fun hc0 => rn_last (rn_go rfl (lp_sM_l6 x0 x1 x2 x3 r4 r5 hb0 h0 h1 h2 h3 n ((bif ((decide ((v9.1 : Int) < v11.1)) || ((iEq v9.1 v11.1) && (decide ((v9.2 : Int) < v11.2)))) then u6 else (iAdd .i64 (IntKind.wrap .i64 (iShr .u64 (IntKind.wrap .u64 (iAdd .i64 u6 u7)) 1)) 1))) ((bif ((decide ((v9.1 : Int) < v11.1)) || ((iEq v9.1 v11.1) && (decide ((v9.2 : Int) < v11.2)))) then (IntKind.wrap .i64 (iShr .u64 (IntKind.wrap .u64 (iAdd .i64 u6 u7)) 1)) else u7)) (by have g0_0 : u6 < u7 := of_decide_eq_true (bn_f hc0); refine ⟨?_, ?_, ?_⟩ <;> (omega)) (by have g0_0 : u6 < u7 := of_decide_eq_true (bn_f hc0); omega)))))
def rk_sM_l7 (r : List GKey) : Nat × List AV := (0, [(.sl (List.map GKey.enc r) false)])
theorem lp_sM_l7 (x0 : List GKey) (x1 : Int) (x2 : Int) (x3 : Int) (r4 : Int) (r5 : List GKey) (r6 : Int) (hb0 : x0.length ≤ 4294967296) (h0 : 0 ≤ x1) (h1 : x1 < x2) (h2 : x2 < x3) (h3 : x3 ≤ x0.length) (q0 : x1 ≤ r6) (q1 : r6 ≤ x2) : ∀ (n : Nat) (u7 : Int) (u8 : List GKey), (r6 ≤ u7 ∧ u7 ≤ x2 ∧ u8.length = x0.length) → (u7 - r6).toNat < n → RunN (fun σ => SidesOk Try.prog σ [zz150,
  zz131,
  (zz14, (.tm (.bin .leq (.int .i64) (.li 0) zz59))),
  zz141,
  (zz14, (.row (.var 8 []) (.var 7 []) zz54)),
  (zz14, (.row (.var 8 []) zz59 zz31)),
  zz151,
  (zz14, (.st (.var 11 []) zz59 0 zz54 (.var 12 []))),
  zz124] ∧ LoL Try.prog [] σ)
  zz97
  [(.sl (List.map GKey.enc x0) false), (.p (.int .i64 x1)), (.p (.int .i64 x2)), (.p (.int .i64 x3)), (.p (.int .i64 r4)), (.sl (List.map GKey.enc r5) false), (.p (.int .i64 r6))] 2 n [(.p (.int .i64 u7)), (.sl (List.map GKey.enc u8) false)] (rk_sM_l7 (sM_l7 r6 n u7 u8)).1 (rk_sM_l7 (sM_l7 r6 n u7 u8)).2
 | 0, u7, u8, hi, hm => absurd hm (Nat.not_lt_zero _)
 | n + 1, u7, u8, hi, hm =>
  let v9 : GKey := u8.getD (u7 : Int).toNat default
  let v10 : GKey := u8.getD ((iSub .i64 u7 1) : Int).toNat default
  let v11 : List GKey := u8.set (u7 : Int).toNat v10
  let v12 : List GKey := v11.set ((iSub .i64 u7 1) : Int).toNat v9
  have ia0 : (iSub .i64 x3 x2) = x3 - x2 := iSubC (by omega) (by omega)
  have ia1 : (iSub .i64 x2 x1) = x2 - x1 := iSubC (by omega) (by omega)
  have ia2 : (iSub .i64 u7 1) = u7 - 1 := iSubC (by omega) (by omega)
  rn_mk (r := rk_sM_l7 (sM_l7 r6 (n + 1) u7 u8)) [(GKey.av v9), (GKey.av v10), (.sl (List.map GKey.enc v11) false), (.sl (List.map GKey.enc v12) false)] [(.sl (List.map GKey.enc x0) false), (.p (.int .i64 x1)), (.p (.int .i64 x2)), (.p (.int .i64 x3)), (.p (.int .i64 r4)), (.sl (List.map GKey.enc r5) false), (.p (.int .i64 r6)), (.p (.int .i64 u7)), (.sl (List.map GKey.enc u8) false), (GKey.av v9), (GKey.av v10), (.sl (List.map GKey.enc v11) false), (.sl (List.map GKey.enc v12) false)] rfl rfl (fzc (fzs GKey.fzL _) (fzc rfl (fzc rfl (fzc rfl (fzc rfl (fzc (fzs GKey.fzL _) (fzc rfl (fzc rfl (fzc (fzs GKey.fzL _) (fzc (GKey.fz _) (fzc (GKey.fz _) (fzc (fzs GKey.fzL _) (fzc (fzs GKey.fzL _) (fzn)))))))))))))) ⟨SidesC.ok (sc (fun h => decide_eq_true (p := (0 : Int) ≤ u7) (by have a0 : u7 > r6 := of_decide_eq_true (h.at 0 rfl); have a1 : (iSub .i64 x3 x2) = 1 := iEq_t.1 (h.at 1 rfl); have a2 : (iSub .i64 x2 x1) ≠ 1 := iEq_f.1 (h.at 2 rfl); omega))
   (sc (fun h => decide_eq_true (p := (u7 : Int) < (mLen GKey.enc u8)) (by have a0 : u7 > r6 := of_decide_eq_true (h.at 0 rfl); have a1 : (iSub .i64 x3 x2) = 1 := iEq_t.1 (h.at 1 rfl); have a2 : (iSub .i64 x2 x1) ≠ 1 := iEq_f.1 (h.at 2 rfl); (simp only [lens, v11, v12] <;> omega)))
   (sc (fun h => decide_eq_true (p := (0 : Int) ≤ (iSub .i64 u7 1)) (by have a0 : u7 > r6 := of_decide_eq_true (h.at 0 rfl); have a1 : (iSub .i64 x3 x2) = 1 := iEq_t.1 (h.at 1 rfl); have a2 : (iSub .i64 x2 x1) ≠ 1 := iEq_f.1 (h.at 2 rfl); omega))
   (sc (fun h => decide_eq_true (p := ((iSub .i64 u7 1) : Int) < (mLen GKey.enc u8)) (by have a0 : u7 > r6 := of_decide_eq_true (h.at 0 rfl); have a1 : (iSub .i64 x3 x2) = 1 := iEq_t.1 (h.at 1 rfl); have a2 : (iSub .i64 x2 x1) ≠ 1 := iEq_f.1 (h.at 2 rfl); (simp only [lens, v11, v12] <;> omega)))
   (sc (fun h => row_i (i := u7) (by have a0 : u7 > r6 := of_decide_eq_true (h.at 0 rfl); have a1 : (iSub .i64 x3 x2) = 1 := iEq_t.1 (h.at 1 rfl); have a2 : (iSub .i64 x2 x1) ≠ 1 := iEq_f.1 (h.at 2 rfl); omega) (by have a0 : u7 > r6 := of_decide_eq_true (h.at 0 rfl); have a1 : (iSub .i64 x3 x2) = 1 := iEq_t.1 (h.at 1 rfl); have a2 : (iSub .i64 x2 x1) ≠ 1 := iEq_f.1 (h.at 2 rfl); omega))
   (sc (fun h => row_i (i := (iSub .i64 u7 1)) (by have a0 : u7 > r6 := of_decide_eq_true (h.at 0 rfl); have a1 : (iSub .i64 x3 x2) = 1 := iEq_t.1 (h.at 1 rfl); have a2 : (iSub .i64 x2 x1) ≠ 1 := iEq_f.1 (h.at 2 rfl); omega) (by have a0 : u7 > r6 := of_decide_eq_true (h.at 0 rfl); have a1 : (iSub .i64 x3 x2) = 1 := iEq_t.1 (h.at 1 rfl); have a2 : (iSub .i64 x2 x1) ≠ 1 := iEq_f.1 (h.at 2 rfl); omega))
   (sc (fun h => st_side (off := 0) (cells := denL _ zz31) (f := GKey.enc) (l := u8) (i := u7) (n := 2) v10 (by have a0 : u7 > r6 := of_decide_eq_true (h.at 0 rfl); have a1 : (iSub .i64 x3 x2) = 1 := iEq_t.1 (h.at 1 rfl); have a2 : (iSub .i64 x2 x1) ≠ 1 := iEq_f.1 (h.at 2 rfl); omega) (by have a0 : u7 > r6 := of_decide_eq_true (h.at 0 rfl); have a1 : (iSub .i64 x3 x2) = 1 := iEq_t.1 (h.at 1 rfl); have a2 : (iSub .i64 x2 x1) ≠ 1 := iEq_f.1 (h.at 2 rfl); omega) (fun _ => rfl) rfl rfl)
   (sc (fun h => st_side (off := 0) (cells := denL _ zz54) (f := GKey.enc) (l := v11) (i := (iSub .i64 u7 1)) (n := 2) v9 (by have a0 : u7 > r6 := of_decide_eq_true (h.at 0 rfl); have a1 : (iSub .i64 x3 x2) = 1 := iEq_t.1 (h.at 1 rfl); have a2 : (iSub .i64 x2 x1) ≠ 1 := iEq_f.1 (h.at 2 rfl); omega) (by have a0 : u7 > r6 := of_decide_eq_true (h.at 0 rfl); have a1 : (iSub .i64 x3 x2) = 1 := iEq_t.1 (h.at 1 rfl); have a2 : (iSub .i64 x2 x1) ≠ 1 := iEq_f.1 (h.at 2 rfl); (simp only [lens, v11, v12] <;> omega)) (fun _ => rfl) rfl rfl)
   (sc (fun h => iEq_t.2 (show ((mLen GKey.enc x0) : Int) = (mLen GKey.enc u8) from (by have a0 : u7 > r6 := of_decide_eq_true (h.at 0 rfl); have a1 : (iSub .i64 x3 x2) = 1 := iEq_t.1 (h.at 1 rfl); have a2 : (iSub .i64 x2 x1) ≠ 1 := iEq_f.1 (h.at 2 rfl); (simp only [lens, v11, v12] <;> omega))))
   (sn)))))))))),
   ll_nil⟩
   (rn_cons rk_sM_l7 (c := (!(decide ((u7 : Int) > r6)))) rfl (fun hc0 => rn_exit rfl rfl) (fun hc0 => rn_last (rn_go rfl (lp_sM_l7 x0 x1 x2 x3 r4 r5 r6 hb0 h0 h1 h2 h3 q0 q1 n ((iSub .i64 u7 1)) (v12) (by have g0_0 : u7 > r6 := of_decide_eq_true (bn_f hc0); refine ⟨?_, ?_, ?_⟩ <;> ((simp [lens, v11, v12, *] <;> omega))) (by have g0_0 : u7 > r6 := of_decide_eq_true (bn_f hc0); omega)))))
def rk_sM_l8 (r : Int) : Nat × List AV := (0, [(.p (.int .i64 r))])
theorem lp_sM_l8 (x0 : List GKey) (x1 : Int) (x2 : Int) (x3 : Int) (r4 : Int) (r5 : List GKey) (r6 : Int) (r7 : List GKey) (hb0 : x0.length ≤ 4294967296) (h0 : 0 ≤ x1) (h1 : x1 < x2) (h2 : x2 < x3) (h3 : x3 ≤ x0.length) : ∀ (n : Nat) (u8 : Int) (u9 : Int), (x1 ≤ u8 ∧ u8 ≤ u9 ∧ u9 ≤ x2 ∧ u9 ≤ (x1 + x3) / 2 ∧ (x1 + x3) / 2 + x2 - x3 ≤ u8) → (u9 - u8).toNat < n → RunN (fun σ => SidesOk Try.prog σ [(zz16, (.tm (.bin .leq (.int .i64) (.li 0) zz44))),
  zz142,
  (zz16, (.rd (true, 2) (.var 0 []) zz44 0 (.agg zz31))),
  (zz16, (.call 65 [(.agg zz31)] (.tup zz88))),
  (zz16, (.tm (.bin .leq (.int .i64) (.li 0) zz12))),
  zz143,
  (zz16, (.rd (true, 2) (.var 0 []) zz12 0 (.agg zz27))),
  zz114] ∧ LoL Try.prog [] σ)
  zz36
  [(.sl (List.map GKey.enc x0) false), (.p (.int .i64 x1)), (.p (.int .i64 x2)), (.p (.int .i64 x3)), (.p (.int .i64 r4)), (.sl (List.map GKey.enc r5) false), (.p (.int .i64 r6)), (.sl (List.map GKey.enc r7) false)] 2 n [(.p (.int .i64 u8)), (.p (.int .i64 u9))] (rk_sM_l8 (sM_l8 x0 x1 x2 x3 n u8 u9)).1 (rk_sM_l8 (sM_l8 x0 x1 x2 x3 n u8 u9)).2
 | 0, u8, u9, hi, hm => absurd hm (Nat.not_lt_zero _)
 | n + 1, u8, u9, hi, hm =>
  let v10 : GKey := x0.getD ((iSub .i64 (iSub .i64 (iAdd .i64 (IntKind.wrap .i64 (iShr .u64 (IntKind.wrap .u64 (iAdd .i64 x1 x3)) 1)) x2) 1) (IntKind.wrap .i64 (iShr .u64 (IntKind.wrap .u64 (iAdd .i64 u8 u9)) 1))) : Int).toNat default
  let v11 : Int × Int := key_place v10
  let v12 : GKey := x0.getD ((IntKind.wrap .i64 (iShr .u64 (IntKind.wrap .u64 (iAdd .i64 u8 u9)) 1)) : Int).toNat default
  let v13 : Int × Int := key_place v12
  have ia0 : (iSub .i64 x3 x2) = x3 - x2 := iSubC (by omega) (by omega)
  have ia1 : (iSub .i64 x2 x1) = x2 - x1 := iSubC (by omega) (by omega)
  have ia2 : (iAdd .i64 x1 x3) = x1 + x3 := iAddC (by omega) (by omega)
  have ia3 : (IntKind.wrap .i64 (iShr .u64 (IntKind.wrap .u64 (iAdd .i64 x1 x3)) 1)) = (iAdd .i64 x1 x3) / 2 := midC (x := (iAdd .i64 x1 x3)) (by omega) (by omega)
  have ia4 : (iAdd .i64 (IntKind.wrap .i64 (iShr .u64 (IntKind.wrap .u64 (iAdd .i64 x1 x3)) 1)) x2) = (IntKind.wrap .i64 (iShr .u64 (IntKind.wrap .u64 (iAdd .i64 x1 x3)) 1)) + x2 := iAddC (by omega) (by omega)
  have ia5 : (iSub .i64 (iAdd .i64 (IntKind.wrap .i64 (iShr .u64 (IntKind.wrap .u64 (iAdd .i64 x1 x3)) 1)) x2) 1) = (iAdd .i64 (IntKind.wrap .i64 (iShr .u64 (IntKind.wrap .u64 (iAdd .i64 x1 x3)) 1)) x2) - 1 := iSubC (by omega) (by omega)
  have ia6 : (iAdd .i64 u8 u9) = u8 + u9 := iAddC (by omega) (by omega)
  have ia7 : (IntKind.wrap .i64 (iShr .u64 (IntKind.wrap .u64 (iAdd .i64 u8 u9)) 1)) = (iAdd .i64 u8 u9) / 2 := midC (x := (iAdd .i64 u8 u9)) (by omega) (by omega)
  have ia8 : (iSub .i64 (iSub .i64 (iAdd .i64 (IntKind.wrap .i64 (iShr .u64 (IntKind.wrap .u64 (iAdd .i64 x1 x3)) 1)) x2) 1) (IntKind.wrap .i64 (iShr .u64 (IntKind.wrap .u64 (iAdd .i64 u8 u9)) 1))) = (iSub .i64 (iAdd .i64 (IntKind.wrap .i64 (iShr .u64 (IntKind.wrap .u64 (iAdd .i64 x1 x3)) 1)) x2) 1) - (IntKind.wrap .i64 (iShr .u64 (IntKind.wrap .u64 (iAdd .i64 u8 u9)) 1)) := iSubC (by omega) (by omega)
  have ia9 : (iAdd .i64 (IntKind.wrap .i64 (iShr .u64 (IntKind.wrap .u64 (iAdd .i64 u8 u9)) 1)) 1) = (IntKind.wrap .i64 (iShr .u64 (IntKind.wrap .u64 (iAdd .i64 u8 u9)) 1)) + 1 := iAddC (by omega) (by omega)
  have ia10 : (b2i (((decide ((v11.1 : Int) < v13.1)) || ((iEq v11.1 v13.1) && (decide ((v11.2 : Int) < v13.2))))) = 1 ∧ (bif ((decide ((v11.1 : Int) < v13.1)) || ((iEq v11.1 v13.1) && (decide ((v11.2 : Int) < v13.2)))) then u8 else (iAdd .i64 (IntKind.wrap .i64 (iShr .u64 (IntKind.wrap .u64 (iAdd .i64 u8 u9)) 1)) 1)) = u8) ∨ (b2i (((decide ((v11.1 : Int) < v13.1)) || ((iEq v11.1 v13.1) && (decide ((v11.2 : Int) < v13.2))))) = 0 ∧ (bif ((decide ((v11.1 : Int) < v13.1)) || ((iEq v11.1 v13.1) && (decide ((v11.2 : Int) < v13.2)))) then u8 else (iAdd .i64 (IntKind.wrap .i64 (iShr .u64 (IntKind.wrap .u64 (iAdd .i64 u8 u9)) 1)) 1)) = (iAdd .i64 (IntKind.wrap .i64 (iShr .u64 (IntKind.wrap .u64 (iAdd .i64 u8 u9)) 1)) 1)) := iteB
  have ia11 : (b2i (((decide ((v11.1 : Int) < v13.1)) || ((iEq v11.1 v13.1) && (decide ((v11.2 : Int) < v13.2))))) = 1 ∧ (bif ((decide ((v11.1 : Int) < v13.1)) || ((iEq v11.1 v13.1) && (decide ((v11.2 : Int) < v13.2)))) then (IntKind.wrap .i64 (iShr .u64 (IntKind.wrap .u64 (iAdd .i64 u8 u9)) 1)) else u9) = (IntKind.wrap .i64 (iShr .u64 (IntKind.wrap .u64 (iAdd .i64 u8 u9)) 1))) ∨ (b2i (((decide ((v11.1 : Int) < v13.1)) || ((iEq v11.1 v13.1) && (decide ((v11.2 : Int) < v13.2))))) = 0 ∧ (bif ((decide ((v11.1 : Int) < v13.1)) || ((iEq v11.1 v13.1) && (decide ((v11.2 : Int) < v13.2)))) then (IntKind.wrap .i64 (iShr .u64 (IntKind.wrap .u64 (iAdd .i64 u8 u9)) 1)) else u9) = u9) := iteB
  rn_mk (r := rk_sM_l8 (sM_l8 x0 x1 x2 x3 (n + 1) u8 u9)) [(GKey.av v10), (eR_ii64_ii64 v11), (GKey.av v12), (eR_ii64_ii64 v13)] [(.sl (List.map GKey.enc x0) false), (.p (.int .i64 x1)), (.p (.int .i64 x2)), (.p (.int .i64 x3)), (.p (.int .i64 r4)), (.sl (List.map GKey.enc r5) false), (.p (.int .i64 r6)), (.sl (List.map GKey.enc r7) false), (.p (.int .i64 u8)), (.p (.int .i64 u9)), (GKey.av v10), (eR_ii64_ii64 v11), (GKey.av v12), (eR_ii64_ii64 v13)] rfl rfl (fzc (fzs GKey.fzL _) (fzc rfl (fzc rfl (fzc rfl (fzc rfl (fzc (fzs GKey.fzL _) (fzc rfl (fzc (fzs GKey.fzL _) (fzc rfl (fzc rfl (fzc (GKey.fz _) (fzc (show (eR_ii64_ii64 v11).fz = true from (fzc rfl (fzc rfl (fzn)) : fzL _ = true)) (fzc (GKey.fz _) (fzc (show (eR_ii64_ii64 v13).fz = true from (fzc rfl (fzc rfl (fzn)) : fzL _ = true)) (fzn))))))))))))))) ⟨SidesC.ok (sc (fun h => decide_eq_true (p := (0 : Int) ≤ (iSub .i64 (iSub .i64 (iAdd .i64 (IntKind.wrap .i64 (iShr .u64 (IntKind.wrap .u64 (iAdd .i64 x1 x3)) 1)) x2) 1) (IntKind.wrap .i64 (iShr .u64 (IntKind.wrap .u64 (iAdd .i64 u8 u9)) 1)))) (by have a0 : u8 < u9 := of_decide_eq_true (h.at 0 rfl); have a1 : (iSub .i64 x3 x2) ≠ 1 := iEq_f.1 (h.at 1 rfl); have a2 : (iSub .i64 x2 x1) ≠ 1 := iEq_f.1 (h.at 2 rfl); omega))
   (sc (fun h => decide_eq_true (p := ((iSub .i64 (iSub .i64 (iAdd .i64 (IntKind.wrap .i64 (iShr .u64 (IntKind.wrap .u64 (iAdd .i64 x1 x3)) 1)) x2) 1) (IntKind.wrap .i64 (iShr .u64 (IntKind.wrap .u64 (iAdd .i64 u8 u9)) 1))) : Int) < (mLen GKey.enc x0)) (by have a0 : u8 < u9 := of_decide_eq_true (h.at 0 rfl); have a1 : (iSub .i64 x3 x2) ≠ 1 := iEq_f.1 (h.at 1 rfl); have a2 : (iSub .i64 x2 x1) ≠ 1 := iEq_f.1 (h.at 2 rfl); (simp only [lens] <;> omega)))
   (sc (fun h => rd_side (f := GKey.enc) (l := x0) (i := (iSub .i64 (iSub .i64 (iAdd .i64 (IntKind.wrap .i64 (iShr .u64 (IntKind.wrap .u64 (iAdd .i64 x1 x3)) 1)) x2) 1) (IntKind.wrap .i64 (iShr .u64 (IntKind.wrap .u64 (iAdd .i64 u8 u9)) 1)))) (n := 2) (by have a0 : u8 < u9 := of_decide_eq_true (h.at 0 rfl); have a1 : (iSub .i64 x3 x2) ≠ 1 := iEq_f.1 (h.at 1 rfl); have a2 : (iSub .i64 x2 x1) ≠ 1 := iEq_f.1 (h.at 2 rfl); omega) (by have a0 : u8 < u9 := of_decide_eq_true (h.at 0 rfl); have a1 : (iSub .i64 x3 x2) ≠ 1 := iEq_f.1 (h.at 1 rfl); have a2 : (iSub .i64 x2 x1) ≠ 1 := iEq_f.1 (h.at 2 rfl); omega) (fun _ => rfl) (by first | exact ⟨Nat.le_of_ble_eq_true rfl, rfl⟩ | exact rfl))
   (sc (fun _ => pc_key_place (v10))
   (sc (fun h => decide_eq_true (p := (0 : Int) ≤ (IntKind.wrap .i64 (iShr .u64 (IntKind.wrap .u64 (iAdd .i64 u8 u9)) 1))) (by have a0 : u8 < u9 := of_decide_eq_true (h.at 0 rfl); have a1 : (iSub .i64 x3 x2) ≠ 1 := iEq_f.1 (h.at 1 rfl); have a2 : (iSub .i64 x2 x1) ≠ 1 := iEq_f.1 (h.at 2 rfl); omega))
   (sc (fun h => decide_eq_true (p := ((IntKind.wrap .i64 (iShr .u64 (IntKind.wrap .u64 (iAdd .i64 u8 u9)) 1)) : Int) < (mLen GKey.enc x0)) (by have a0 : u8 < u9 := of_decide_eq_true (h.at 0 rfl); have a1 : (iSub .i64 x3 x2) ≠ 1 := iEq_f.1 (h.at 1 rfl); have a2 : (iSub .i64 x2 x1) ≠ 1 := iEq_f.1 (h.at 2 rfl); (simp only [lens] <;> omega)))
   (sc (fun h => rd_side (f := GKey.enc) (l := x0) (i := (IntKind.wrap .i64 (iShr .u64 (IntKind.wrap .u64 (iAdd .i64 u8 u9)) 1))) (n := 2) (by have a0 : u8 < u9 := of_decide_eq_true (h.at 0 rfl); have a1 : (iSub .i64 x3 x2) ≠ 1 := iEq_f.1 (h.at 1 rfl); have a2 : (iSub .i64 x2 x1) ≠ 1 := iEq_f.1 (h.at 2 rfl); omega) (by have a0 : u8 < u9 := of_decide_eq_true (h.at 0 rfl); have a1 : (iSub .i64 x3 x2) ≠ 1 := iEq_f.1 (h.at 1 rfl); have a2 : (iSub .i64 x2 x1) ≠ 1 := iEq_f.1 (h.at 2 rfl); omega) (fun _ => rfl) (by first | exact ⟨Nat.le_of_ble_eq_true rfl, rfl⟩ | exact rfl))
   (sc (fun _ => pc_key_place (v12))
   (sn))))))))),
   ll_nil⟩
   (rn_cons rk_sM_l8 (c := (!(decide ((u8 : Int) < u9)))) rfl (fun hc0 => rn_exit rfl rfl) (fun hc0 => rn_last (rn_go rfl (lp_sM_l8 x0 x1 x2 x3 r4 r5 r6 r7 hb0 h0 h1 h2 h3 n ((bif ((decide ((v11.1 : Int) < v13.1)) || ((iEq v11.1 v13.1) && (decide ((v11.2 : Int) < v13.2)))) then u8 else (iAdd .i64 (IntKind.wrap .i64 (iShr .u64 (IntKind.wrap .u64 (iAdd .i64 u8 u9)) 1)) 1))) ((bif ((decide ((v11.1 : Int) < v13.1)) || ((iEq v11.1 v13.1) && (decide ((v11.2 : Int) < v13.2)))) then (IntKind.wrap .i64 (iShr .u64 (IntKind.wrap .u64 (iAdd .i64 u8 u9)) 1)) else u9)) (by have g0_0 : u8 < u9 := of_decide_eq_true (bn_f hc0); refine ⟨?_, ?_, ?_, ?_, ?_⟩ <;> (omega)) (by have g0_0 : u8 < u9 := of_decide_eq_true (bn_f hc0); omega)))))
theorem e_sM : sFnW Try.prog xBase iBase mdI (fcI kA 125 [1, 2, 3, 4, 8, 9, 10, 11, 12, 13, 14, 15, 16, 17, 18, 19, 20, 21, 22, 26, 31, 42, 50, 62, 67, 79, 86, 106, 117, 131, 142, 143, 144, 145, 155, 156, 157, 158, 168, 169, 170, 171] [(8, (.mk [1, 2, 3, 4, 16, 17, 20] (.mk [(18, (.sc (.int .i64))), (19, (.sc (.int .i64)))] [] [] 38) [(.normal, (.mk [(18, (.sc (.int .i64)))] [] [] 38))])), (6, (.mk [4, 12] (.mk [(15, (.sc (.int .i64)))] [] [(2, 2)] 19) [(.normal, (.mk [] [] [(2, 2)] 19))])), (4, (.mk [2, 4] (.mk [(12, (.sc (.int .i64))), (13, (.sc (.int .i64)))] [] [] 17) [(.normal, (.mk [(12, (.sc (.int .i64)))] [] [] 17))])), (2, (.mk [4, 8] (.mk [(11, (.sc (.int .i64)))] [] [(2, 2)] 15) [(.normal, (.mk [] [] [(2, 2)] 15))])), (0, (.mk [1, 4] (.mk [(8, (.sc (.int .i64))), (9, (.sc (.int .i64)))] [] [] 13) [(.normal, (.mk [(8, (.sc (.int .i64)))] [] [] 13))]))]) 3 200 125 [zz7, zz60, zz47, zz48] 4 zz50 [(2, 2)] 4 = some ⟨[(zz1, (.tup [(.tup []), (.sc .sl (.var 5 []))])), (zz4, (.tup [(.tup []), (.sc .sl (.var 7 []))])), ((.and zz40 (.and zz49 (.and zz83 zz73))), (.tup [(.tup []), (.sc .sl (.var 13 []))])), ((.and zz40 zz49), (.tup [(.tup []), (.sc .sl (.var 11 []))])), ((.and zz40 (.and zz83 zz73)), (.tup [(.tup []), (.sc .sl (.var 15 []))])), (zz40, (.tup [(.tup []), (.sc .sl (.var 9 []))])), ((.and zz49 (.and zz83 zz73)), (.tup [(.tup []), (.sc .sl (.var 19 []))])), (zz49, (.tup [(.tup []), (.sc .sl (.var 17 []))])), ((.and zz83 zz73), (.tup [(.tup []), (.sc .sl (.var 21 []))])), ((.lb true), (.tup [(.tup []), (.sc .sl (.var 0 []))]))],
 [([(zz102, true), (zz110, true), (zz4, false), (zz1, false)], (.callw 146 [zz7, (.sc (.int .i64) (.var 8 [])), zz47, (.sc (.int .i64) zz10)] zz50 4 (.tup []) zz116)),
 ([(zz103, true), (zz112, true), (zz102, true), (zz110, true), (zz4, false), (zz1, false)], (.callw 125 zz134 zz116 4 (.tup []) [(3, (.rows 1 [zz13])), (2, (.rowsT 2 (.var 11 [])))])),
 ([(zz83, true), (zz73, true), (zz103, true), (zz112, true), (zz102, true), (zz110, true), (zz4, false), (zz1, false)], (.callw 125 zz92 [(3, (.rows 1 [zz13])), (2, (.rowsT 2 (.var 11 [])))] 4 (.tup []) [(3, (.rows 1 [zz13])), (2, (.rowsT 2 (.var 13 [])))])),
 ([(zz83, true), (zz73, true), (zz49, false), (zz102, true), (zz110, true), (zz4, false), (zz1, false)], (.callw 125 zz92 zz116 4 (.tup []) [(3, (.rows 1 [zz13])), (2, (.rowsT 2 (.var 15 [])))])),
 ([(zz103, true), (zz112, true), (zz40, false), (zz4, false), (zz1, false)], (.callw 125 zz134 zz50 4 (.tup []) [(3, (.rows 1 [zz13])), (2, (.rowsT 2 (.var 17 [])))])),
 ([(zz83, true), (zz73, true), (zz103, true), (zz112, true), (zz40, false), (zz4, false), (zz1, false)], (.callw 125 zz92 [(3, (.rows 1 [zz13])), (2, (.rowsT 2 (.var 17 [])))] 4 (.tup []) [(3, (.rows 1 [zz13])), (2, (.rowsT 2 (.var 19 [])))])),
 ([(zz83, true), (zz73, true), (zz49, false), (zz40, false), (zz4, false), (zz1, false)], (.callw 125 zz92 zz50 4 (.tup []) [(3, (.rows 1 [zz13])), (2, (.rowsT 2 (.var 21 [])))]))],
 [(.mk [(zz1, true)] 4 2 [zz47, zz48] zz39 [(zz18, (.tm (.bin .leq (.int .i64) (.li 0) zz21))), zz138, (zz18, (.rd (true, 2) (.var 0 []) zz21 0 (.agg zz28))), zz115, zz148, zz129, zz144, (zz18, (.call 65 [(.agg zz34)] (.tup zz90)))] [] [1] []),
 (.mk [(zz1, true)] 5 2 [zz60, (.sc .sl (.var 0 []))] zz89 [(zz11, (.tm zz107)), (zz11, (.tm zz113)), (zz11, (.tm (.bin .leq (.int .i64) (.li 0) zz58))), zz139, (zz11, (.row (.var 6 []) (.var 5 []) zz25)), (zz11, (.row (.var 6 []) zz58 zz34)), (zz11, (.st (.var 6 []) (.var 5 []) 0 zz34 (.var 9 []))), (zz11, (.st (.var 9 []) zz58 0 zz25 (.var 10 []))), (zz11, (.tm zz106))] [] [1] []),
 (.mk [(zz4, true), (zz1, false)] 6 2 [zz60, zz47] zz38 [zz149, zz130, zz145, (zz17, (.call 65 [(.agg zz34)] (.tup zz90))), (zz17, (.tm (.bin .leq (.int .i64) (.li 0) zz22))), zz140, (zz17, (.rd (true, 2) (.var 0 []) zz22 0 (.agg zz31))), (zz17, (.call 65 [(.agg zz31)] (.tup zz88)))] [] [1] []),
 (.mk [(zz4, true), (zz1, false)] 7 2 [zz47, (.sc .sl (.var 0 []))] zz97 [zz150, zz131, (zz14, (.tm (.bin .leq (.int .i64) (.li 0) zz59))), zz141, (zz14, (.row (.var 8 []) (.var 7 []) zz54)), (zz14, (.row (.var 8 []) zz59 zz31)), zz151, (zz14, (.st (.var 11 []) zz59 0 zz54 (.var 12 []))), zz124] [] [1] []),
 (.mk [(zz4, false), (zz1, false)] 8 2 [(.sc (.int .i64) (.ite (.bin .gtr (.int .i64) (.var 2 []) zz2) (.bin .sub (.int .i64) (.bin .add (.int .i64) zz2 (.var 2 [])) (.var 3 [])) (.var 1 []))), (.sc (.int .i64) (.ite (.bin .gtr (.int .i64) (.var 2 []) zz2) zz2 (.var 2 [])))] zz36 [(zz16, (.tm (.bin .leq (.int .i64) (.li 0) zz44))), zz142, (zz16, (.rd (true, 2) (.var 0 []) zz44 0 (.agg zz31))), (zz16, (.call 65 [(.agg zz31)] (.tup zz88))), (zz16, (.tm (.bin .leq (.int .i64) (.li 0) zz12))), zz143, (zz16, (.rd (true, 2) (.var 0 []) zz12 0 (.agg zz27))), zz114] [] [1] [])]⟩ := by kernel_rfl
theorem pwL_sM : ∀ (n : Nat) (x0 : List GKey) (x1 : Int) (x2 : Int) (x3 : Int) (L0 : Nat) (hL0 : L0 = x0.length) (h0 : 0 ≤ x1) (h1 : x1 < x2) (h2 : x2 < x3) (h3 : x3 ≤ x0.length), (x3 - x1).toNat < n → PWL Try.prog 125 [(.agg [(.fn (.func 64) [] [(.op 3 1 0 0)]), (.fn (.func 123) [] [(.os 2 2 0 L0), (.p (Cv.val (.at 1 24)))])]), (.p (.int .i64 x1)), (.p (.int .i64 x2)), (.p (.int .i64 x3))] [(3, .rows 1 [[(.os 2 2 0 L0)]]), (2, .rows 2 (List.map GKey.enc x0))] 4 (.tup []) [(3, .rows 1 [[(.os 2 2 0 L0)]]), (2, .rows 2 (List.map GKey.enc (sM n x0 x1 x2 x3)))]
 | 0, x0, x1, x2, x3, L0, hL0, h0, h1, h2, h3, hm => absurd hm (Nat.not_lt_zero _)
 | n + 1, x0, x1, x2, x3, L0, hL0, h0, h1, h2, h3, hm => by
  have hM0 : L0 = (List.map GKey.enc x0).length := by rw [List.length_map]; exact hL0
  subst hM0
  exact pw_bnd fun hb =>
   have hb0 : x0.length ≤ 4294967296 := by have := hb; simp only [bndL, AV.bnd, List.length_map] at this; omega
   let r4 : Int := sM_l4 x0 x1 ((x3 - x2).toNat + 1) x2 x3
   let r5 : List GKey := sM_l5 r4 (((iSub .i64 r4 1) : Int).toNat + 1) x1 x0
   let r6 : Int := sM_l6 x0 x2 ((x2 - x1).toNat + 1) x1 x2
   let r7 : List GKey := sM_l7 r6 ((x2 - x1).toNat + 1) x2 x0
   let r8 : Int := sM_l8 x0 x1 x2 x3 ((x3 - x1).toNat + 1) (bif (decide ((x2 : Int) > (IntKind.wrap .i64 (iShr .u64 (IntKind.wrap .u64 (iAdd .i64 x1 x3)) 1)))) then (iSub .i64 (iAdd .i64 (IntKind.wrap .i64 (iShr .u64 (IntKind.wrap .u64 (iAdd .i64 x1 x3)) 1)) x2) x3) else x1) (bif (decide ((x2 : Int) > (IntKind.wrap .i64 (iShr .u64 (IntKind.wrap .u64 (iAdd .i64 x1 x3)) 1)))) then (IntKind.wrap .i64 (iShr .u64 (IntKind.wrap .u64 (iAdd .i64 x1 x3)) 1)) else x2)
   let w9 : List GKey := sR x0 r8 x2 (iSub .i64 (iAdd .i64 (IntKind.wrap .i64 (iShr .u64 (IntKind.wrap .u64 (iAdd .i64 x1 x3)) 1)) x2) r8)
   let v9 : List GKey := w9
   let w11 : List GKey := sM n v9 x1 r8 (IntKind.wrap .i64 (iShr .u64 (IntKind.wrap .u64 (iAdd .i64 x1 x3)) 1))
   let v11 : List GKey := w11
   let w13 : List GKey := sM n v11 (IntKind.wrap .i64 (iShr .u64 (IntKind.wrap .u64 (iAdd .i64 x1 x3)) 1)) (iSub .i64 (iAdd .i64 (IntKind.wrap .i64 (iShr .u64 (IntKind.wrap .u64 (iAdd .i64 x1 x3)) 1)) x2) r8) x3
   let v13 : List GKey := w13
   let w15 : List GKey := sM n v9 (IntKind.wrap .i64 (iShr .u64 (IntKind.wrap .u64 (iAdd .i64 x1 x3)) 1)) (iSub .i64 (iAdd .i64 (IntKind.wrap .i64 (iShr .u64 (IntKind.wrap .u64 (iAdd .i64 x1 x3)) 1)) x2) r8) x3
   let v15 : List GKey := w15
   let w17 : List GKey := sM n x0 x1 r8 (IntKind.wrap .i64 (iShr .u64 (IntKind.wrap .u64 (iAdd .i64 x1 x3)) 1))
   let v17 : List GKey := w17
   let w19 : List GKey := sM n v17 (IntKind.wrap .i64 (iShr .u64 (IntKind.wrap .u64 (iAdd .i64 x1 x3)) 1)) (iSub .i64 (iAdd .i64 (IntKind.wrap .i64 (iShr .u64 (IntKind.wrap .u64 (iAdd .i64 x1 x3)) 1)) x2) r8) x3
   let v19 : List GKey := w19
   let w21 : List GKey := sM n x0 (IntKind.wrap .i64 (iShr .u64 (IntKind.wrap .u64 (iAdd .i64 x1 x3)) 1)) (iSub .i64 (iAdd .i64 (IntKind.wrap .i64 (iShr .u64 (IntKind.wrap .u64 (iAdd .i64 x1 x3)) 1)) x2) r8) x3
   let v21 : List GKey := w21
   have hp4_0 : r4 ≤ x3 ∧ x2 ≤ r4 := symMerge_l4_bd h0 h1 h2 h3 hb0
   have hp6_0 : x1 ≤ r6 ∧ r6 ≤ x2 := symMerge_l6_bd h0 h1 h2 h3 hb0
   have hp8_0 : x1 ≤ r8 ∧ r8 ≤ x2 ∧ r8 ≤ (x1 + x3) / 2 ∧ (x1 + x3) / 2 + x2 - x3 ≤ r8 := symMerge_l8_bd h0 h1 h2 h3 hb0 rfl
   have hp9_0 : v9.length = x0.length := rotate_len
   have hp11_0 : v11.length = v9.length := symMerge_len
   have hp13_0 : v13.length = v11.length := symMerge_len
   have hp15_0 : v15.length = v9.length := symMerge_len
   have hp17_0 : v17.length = x0.length := symMerge_len
   have hp19_0 : v19.length = v17.length := symMerge_len
   have hp21_0 : v21.length = x0.length := symMerge_len
   have ia0 : (iAdd .i64 x1 x3) = x1 + x3 := iAddC (by omega) (by omega)
   have ia1 : (IntKind.wrap .i64 (iShr .u64 (IntKind.wrap .u64 (iAdd .i64 x1 x3)) 1)) = (iAdd .i64 x1 x3) / 2 := midC (x := (iAdd .i64 x1 x3)) (by omega) (by omega)
   have ia2 : (iAdd .i64 (IntKind.wrap .i64 (iShr .u64 (IntKind.wrap .u64 (iAdd .i64 x1 x3)) 1)) x2) = (IntKind.wrap .i64 (iShr .u64 (IntKind.wrap .u64 (iAdd .i64 x1 x3)) 1)) + x2 := iAddC (by omega) (by omega)
   have ia3 : (iSub .i64 (iAdd .i64 (IntKind.wrap .i64 (iShr .u64 (IntKind.wrap .u64 (iAdd .i64 x1 x3)) 1)) x2) r8) = (iAdd .i64 (IntKind.wrap .i64 (iShr .u64 (IntKind.wrap .u64 (iAdd .i64 x1 x3)) 1)) x2) - r8 := iSubC (by omega) (by omega)
   have ia4 : (iSub .i64 x3 x2) = x3 - x2 := iSubC (by omega) (by omega)
   have ia5 : (iSub .i64 x2 x1) = x2 - x1 := iSubC (by omega) (by omega)
   have ia6 : (iSub .i64 (iAdd .i64 (IntKind.wrap .i64 (iShr .u64 (IntKind.wrap .u64 (iAdd .i64 x1 x3)) 1)) x2) x3) = (iAdd .i64 (IntKind.wrap .i64 (iShr .u64 (IntKind.wrap .u64 (iAdd .i64 x1 x3)) 1)) x2) - x3 := iSubC (by omega) (by omega)
   have ia7 : (x2 > (IntKind.wrap .i64 (iShr .u64 (IntKind.wrap .u64 (iAdd .i64 x1 x3)) 1)) ∧ (bif (decide ((x2 : Int) > (IntKind.wrap .i64 (iShr .u64 (IntKind.wrap .u64 (iAdd .i64 x1 x3)) 1)))) then (iSub .i64 (iAdd .i64 (IntKind.wrap .i64 (iShr .u64 (IntKind.wrap .u64 (iAdd .i64 x1 x3)) 1)) x2) x3) else x1) = (iSub .i64 (iAdd .i64 (IntKind.wrap .i64 (iShr .u64 (IntKind.wrap .u64 (iAdd .i64 x1 x3)) 1)) x2) x3)) ∨ (¬ x2 > (IntKind.wrap .i64 (iShr .u64 (IntKind.wrap .u64 (iAdd .i64 x1 x3)) 1)) ∧ (bif (decide ((x2 : Int) > (IntKind.wrap .i64 (iShr .u64 (IntKind.wrap .u64 (iAdd .i64 x1 x3)) 1)))) then (iSub .i64 (iAdd .i64 (IntKind.wrap .i64 (iShr .u64 (IntKind.wrap .u64 (iAdd .i64 x1 x3)) 1)) x2) x3) else x1) = x1) := iteD
   have ia8 : (x2 > (IntKind.wrap .i64 (iShr .u64 (IntKind.wrap .u64 (iAdd .i64 x1 x3)) 1)) ∧ (bif (decide ((x2 : Int) > (IntKind.wrap .i64 (iShr .u64 (IntKind.wrap .u64 (iAdd .i64 x1 x3)) 1)))) then (IntKind.wrap .i64 (iShr .u64 (IntKind.wrap .u64 (iAdd .i64 x1 x3)) 1)) else x2) = (IntKind.wrap .i64 (iShr .u64 (IntKind.wrap .u64 (iAdd .i64 x1 x3)) 1))) ∨ (¬ x2 > (IntKind.wrap .i64 (iShr .u64 (IntKind.wrap .u64 (iAdd .i64 x1 x3)) 1)) ∧ (bif (decide ((x2 : Int) > (IntKind.wrap .i64 (iShr .u64 (IntKind.wrap .u64 (iAdd .i64 x1 x3)) 1)))) then (IntKind.wrap .i64 (iShr .u64 (IntKind.wrap .u64 (iAdd .i64 x1 x3)) 1)) else x2) = x2) := iteD
   mk_pw (ρ := [(.sl (List.map GKey.enc x0) false), (.p (.int .i64 x1)), (.p (.int .i64 x2)), (.p (.int .i64 x3)), (.p (.int .i64 r4)), (.sl (List.map GKey.enc r5) false), (.p (.int .i64 r6)), (.sl (List.map GKey.enc r7) false), (.p (.int .i64 r8)), (.sl (List.map GKey.enc v9) false), undefA, (.sl (List.map GKey.enc v11) false), undefA, (.sl (List.map GKey.enc v13) false), undefA, (.sl (List.map GKey.enc v15) false), undefA, (.sl (List.map GKey.enc v17) false), undefA, (.sl (List.map GKey.enc v19) false), undefA, (.sl (List.map GKey.enc v21) false), undefA]) (cs := [(.sl (List.map GKey.enc (sM (n + 1) x0 x1 x2 x3)) false)]) hmix xBase_ok iBase_ok e_sM (fzc (fzs GKey.fzL _) (fzc rfl (fzc rfl (fzc rfl (fzc rfl (fzc (fzs GKey.fzL _) (fzc rfl (fzc (fzs GKey.fzL _) (fzc rfl (fzc (fzs GKey.fzL _) (fzc rfl (fzc (fzs GKey.fzL _) (fzc rfl (fzc (fzs GKey.fzL _) (fzc rfl (fzc (fzs GKey.fzL _) (fzc rfl (fzc (fzs GKey.fzL _) (fzc rfl (fzc (fzs GKey.fzL _) (fzc rfl (fzc (fzs GKey.fzL _) (fzc rfl (fzn))))))))))))))))))))))))
    (sc (fun h => pwL_sR x0 r8 x2 (iSub .i64 (iAdd .i64 (IntKind.wrap .i64 (iShr .u64 (IntKind.wrap .u64 (iAdd .i64 x1 x3)) 1)) x2) r8) ((List.map GKey.enc x0).length) (by first | (rw [List.length_map]; done) | (rw [List.length_map]; have a0 : r8 < x2 := of_decide_eq_true (h.at 0 rfl); have a1 : x2 < (iSub .i64 (iAdd .i64 (IntKind.wrap .i64 (iShr .u64 (IntKind.wrap .u64 (iAdd .i64 x1 x3)) 1)) x2) r8) := of_decide_eq_true (h.at 1 rfl); have a2 : (iSub .i64 x3 x2) ≠ 1 := iEq_f.1 (h.at 2 rfl); have a3 : (iSub .i64 x2 x1) ≠ 1 := iEq_f.1 (h.at 3 rfl); omega)) (by have a0 : r8 < x2 := of_decide_eq_true (h.at 0 rfl); have a1 : x2 < (iSub .i64 (iAdd .i64 (IntKind.wrap .i64 (iShr .u64 (IntKind.wrap .u64 (iAdd .i64 x1 x3)) 1)) x2) r8) := of_decide_eq_true (h.at 1 rfl); have a2 : (iSub .i64 x3 x2) ≠ 1 := iEq_f.1 (h.at 2 rfl); have a3 : (iSub .i64 x2 x1) ≠ 1 := iEq_f.1 (h.at 3 rfl); omega) (by have a0 : r8 < x2 := of_decide_eq_true (h.at 0 rfl); have a1 : x2 < (iSub .i64 (iAdd .i64 (IntKind.wrap .i64 (iShr .u64 (IntKind.wrap .u64 (iAdd .i64 x1 x3)) 1)) x2) r8) := of_decide_eq_true (h.at 1 rfl); have a2 : (iSub .i64 x3 x2) ≠ 1 := iEq_f.1 (h.at 2 rfl); have a3 : (iSub .i64 x2 x1) ≠ 1 := iEq_f.1 (h.at 3 rfl); omega) (by have a0 : r8 < x2 := of_decide_eq_true (h.at 0 rfl); have a1 : x2 < (iSub .i64 (iAdd .i64 (IntKind.wrap .i64 (iShr .u64 (IntKind.wrap .u64 (iAdd .i64 x1 x3)) 1)) x2) r8) := of_decide_eq_true (h.at 1 rfl); have a2 : (iSub .i64 x3 x2) ≠ 1 := iEq_f.1 (h.at 2 rfl); have a3 : (iSub .i64 x2 x1) ≠ 1 := iEq_f.1 (h.at 3 rfl); omega) (by have a0 : r8 < x2 := of_decide_eq_true (h.at 0 rfl); have a1 : x2 < (iSub .i64 (iAdd .i64 (IntKind.wrap .i64 (iShr .u64 (IntKind.wrap .u64 (iAdd .i64 x1 x3)) 1)) x2) r8) := of_decide_eq_true (h.at 1 rfl); have a2 : (iSub .i64 x3 x2) ≠ 1 := iEq_f.1 (h.at 2 rfl); have a3 : (iSub .i64 x2 x1) ≠ 1 := iEq_f.1 (h.at 3 rfl); omega))
    (sc (fun h => pwL_sM n v9 x1 r8 (IntKind.wrap .i64 (iShr .u64 (IntKind.wrap .u64 (iAdd .i64 x1 x3)) 1)) ((List.map GKey.enc x0).length) (by first | (rw [List.length_map]; done) | (rw [List.length_map]; have a0 : x1 < r8 := of_decide_eq_true (h.at 0 rfl); have a1 : r8 < (IntKind.wrap .i64 (iShr .u64 (IntKind.wrap .u64 (iAdd .i64 x1 x3)) 1)) := of_decide_eq_true (h.at 1 rfl); have a2 : r8 < x2 := of_decide_eq_true (h.at 2 rfl); have a3 : x2 < (iSub .i64 (iAdd .i64 (IntKind.wrap .i64 (iShr .u64 (IntKind.wrap .u64 (iAdd .i64 x1 x3)) 1)) x2) r8) := of_decide_eq_true (h.at 3 rfl); have a4 : (iSub .i64 x3 x2) ≠ 1 := iEq_f.1 (h.at 4 rfl); have a5 : (iSub .i64 x2 x1) ≠ 1 := iEq_f.1 (h.at 5 rfl); omega)) (by have a0 : x1 < r8 := of_decide_eq_true (h.at 0 rfl); have a1 : r8 < (IntKind.wrap .i64 (iShr .u64 (IntKind.wrap .u64 (iAdd .i64 x1 x3)) 1)) := of_decide_eq_true (h.at 1 rfl); have a2 : r8 < x2 := of_decide_eq_true (h.at 2 rfl); have a3 : x2 < (iSub .i64 (iAdd .i64 (IntKind.wrap .i64 (iShr .u64 (IntKind.wrap .u64 (iAdd .i64 x1 x3)) 1)) x2) r8) := of_decide_eq_true (h.at 3 rfl); have a4 : (iSub .i64 x3 x2) ≠ 1 := iEq_f.1 (h.at 4 rfl); have a5 : (iSub .i64 x2 x1) ≠ 1 := iEq_f.1 (h.at 5 rfl); omega) (by have a0 : x1 < r8 := of_decide_eq_true (h.at 0 rfl); have a1 : r8 < (IntKind.wrap .i64 (iShr .u64 (IntKind.wrap .u64 (iAdd .i64 x1 x3)) 1)) := of_decide_eq_true (h.at 1 rfl); have a2 : r8 < x2 := of_decide_eq_true (h.at 2 rfl); have a3 : x2 < (iSub .i64 (iAdd .i64 (IntKind.wrap .i64 (iShr .u64 (IntKind.wrap .u64 (iAdd .i64 x1 x3)) 1)) x2) r8) := of_decide_eq_true (h.at 3 rfl); have a4 : (iSub .i64 x3 x2) ≠ 1 := iEq_f.1 (h.at 4 rfl); have a5 : (iSub .i64 x2 x1) ≠ 1 := iEq_f.1 (h.at 5 rfl); omega) (by have a0 : x1 < r8 := of_decide_eq_true (h.at 0 rfl); have a1 : r8 < (IntKind.wrap .i64 (iShr .u64 (IntKind.wrap .u64 (iAdd .i64 x1 x3)) 1)) := of_decide_eq_true (h.at 1 rfl); have a2 : r8 < x2 := of_decide_eq_true (h.at 2 rfl); have a3 : x2 < (iSub .i64 (iAdd .i64 (IntKind.wrap .i64 (iShr .u64 (IntKind.wrap .u64 (iAdd .i64 x1 x3)) 1)) x2) r8) := of_decide_eq_true (h.at 3 rfl); have a4 : (iSub .i64 x3 x2) ≠ 1 := iEq_f.1 (h.at 4 rfl); have a5 : (iSub .i64 x2 x1) ≠ 1 := iEq_f.1 (h.at 5 rfl); omega) (by have a0 : x1 < r8 := of_decide_eq_true (h.at 0 rfl); have a1 : r8 < (IntKind.wrap .i64 (iShr .u64 (IntKind.wrap .u64 (iAdd .i64 x1 x3)) 1)) := of_decide_eq_true (h.at 1 rfl); have a2 : r8 < x2 := of_decide_eq_true (h.at 2 rfl); have a3 : x2 < (iSub .i64 (iAdd .i64 (IntKind.wrap .i64 (iShr .u64 (IntKind.wrap .u64 (iAdd .i64 x1 x3)) 1)) x2) r8) := of_decide_eq_true (h.at 3 rfl); have a4 : (iSub .i64 x3 x2) ≠ 1 := iEq_f.1 (h.at 4 rfl); have a5 : (iSub .i64 x2 x1) ≠ 1 := iEq_f.1 (h.at 5 rfl); omega) (by have a0 : x1 < r8 := of_decide_eq_true (h.at 0 rfl); have a1 : r8 < (IntKind.wrap .i64 (iShr .u64 (IntKind.wrap .u64 (iAdd .i64 x1 x3)) 1)) := of_decide_eq_true (h.at 1 rfl); have a2 : r8 < x2 := of_decide_eq_true (h.at 2 rfl); have a3 : x2 < (iSub .i64 (iAdd .i64 (IntKind.wrap .i64 (iShr .u64 (IntKind.wrap .u64 (iAdd .i64 x1 x3)) 1)) x2) r8) := of_decide_eq_true (h.at 3 rfl); have a4 : (iSub .i64 x3 x2) ≠ 1 := iEq_f.1 (h.at 4 rfl); have a5 : (iSub .i64 x2 x1) ≠ 1 := iEq_f.1 (h.at 5 rfl); omega))
    (sc (fun h => pwL_sM n v11 (IntKind.wrap .i64 (iShr .u64 (IntKind.wrap .u64 (iAdd .i64 x1 x3)) 1)) (iSub .i64 (iAdd .i64 (IntKind.wrap .i64 (iShr .u64 (IntKind.wrap .u64 (iAdd .i64 x1 x3)) 1)) x2) r8) x3 ((List.map GKey.enc x0).length) (by first | (rw [List.length_map]; done) | (rw [List.length_map]; have a0 : (IntKind.wrap .i64 (iShr .u64 (IntKind.wrap .u64 (iAdd .i64 x1 x3)) 1)) < (iSub .i64 (iAdd .i64 (IntKind.wrap .i64 (iShr .u64 (IntKind.wrap .u64 (iAdd .i64 x1 x3)) 1)) x2) r8) := of_decide_eq_true (h.at 0 rfl); have a1 : (iSub .i64 (iAdd .i64 (IntKind.wrap .i64 (iShr .u64 (IntKind.wrap .u64 (iAdd .i64 x1 x3)) 1)) x2) r8) < x3 := of_decide_eq_true (h.at 1 rfl); have a2 : x1 < r8 := of_decide_eq_true (h.at 2 rfl); have a3 : r8 < (IntKind.wrap .i64 (iShr .u64 (IntKind.wrap .u64 (iAdd .i64 x1 x3)) 1)) := of_decide_eq_true (h.at 3 rfl); have a4 : r8 < x2 := of_decide_eq_true (h.at 4 rfl); have a5 : x2 < (iSub .i64 (iAdd .i64 (IntKind.wrap .i64 (iShr .u64 (IntKind.wrap .u64 (iAdd .i64 x1 x3)) 1)) x2) r8) := of_decide_eq_true (h.at 5 rfl); have a6 : (iSub .i64 x3 x2) ≠ 1 := iEq_f.1 (h.at 6 rfl); have a7 : (iSub .i64 x2 x1) ≠ 1 := iEq_f.1 (h.at 7 rfl); omega)) (by have a0 : (IntKind.wrap .i64 (iShr .u64 (IntKind.wrap .u64 (iAdd .i64 x1 x3)) 1)) < (iSub .i64 (iAdd .i64 (IntKind.wrap .i64 (iShr .u64 (IntKind.wrap .u64 (iAdd .i64 x1 x3)) 1)) x2) r8) := of_decide_eq_true (h.at 0 rfl); have a1 : (iSub .i64 (iAdd .i64 (IntKind.wrap .i64 (iShr .u64 (IntKind.wrap .u64 (iAdd .i64 x1 x3)) 1)) x2) r8) < x3 := of_decide_eq_true (h.at 1 rfl); have a2 : x1 < r8 := of_decide_eq_true (h.at 2 rfl); have a3 : r8 < (IntKind.wrap .i64 (iShr .u64 (IntKind.wrap .u64 (iAdd .i64 x1 x3)) 1)) := of_decide_eq_true (h.at 3 rfl); have a4 : r8 < x2 := of_decide_eq_true (h.at 4 rfl); have a5 : x2 < (iSub .i64 (iAdd .i64 (IntKind.wrap .i64 (iShr .u64 (IntKind.wrap .u64 (iAdd .i64 x1 x3)) 1)) x2) r8) := of_decide_eq_true (h.at 5 rfl); have a6 : (iSub .i64 x3 x2) ≠ 1 := iEq_f.1 (h.at 6 rfl); have a7 : (iSub .i64 x2 x1) ≠ 1 := iEq_f.1 (h.at 7 rfl); omega) (by have a0 : (IntKind.wrap .i64 (iShr .u64 (IntKind.wrap .u64 (iAdd .i64 x1 x3)) 1)) < (iSub .i64 (iAdd .i64 (IntKind.wrap .i64 (iShr .u64 (IntKind.wrap .u64 (iAdd .i64 x1 x3)) 1)) x2) r8) := of_decide_eq_true (h.at 0 rfl); have a1 : (iSub .i64 (iAdd .i64 (IntKind.wrap .i64 (iShr .u64 (IntKind.wrap .u64 (iAdd .i64 x1 x3)) 1)) x2) r8) < x3 := of_decide_eq_true (h.at 1 rfl); have a2 : x1 < r8 := of_decide_eq_true (h.at 2 rfl); have a3 : r8 < (IntKind.wrap .i64 (iShr .u64 (IntKind.wrap .u64 (iAdd .i64 x1 x3)) 1)) := of_decide_eq_true (h.at 3 rfl); have a4 : r8 < x2 := of_decide_eq_true (h.at 4 rfl); have a5 : x2 < (iSub .i64 (iAdd .i64 (IntKind.wrap .i64 (iShr .u64 (IntKind.wrap .u64 (iAdd .i64 x1 x3)) 1)) x2) r8) := of_decide_eq_true (h.at 5 rfl); have a6 : (iSub .i64 x3 x2) ≠ 1 := iEq_f.1 (h.at 6 rfl); have a7 : (iSub .i64 x2 x1) ≠ 1 := iEq_f.1 (h.at 7 rfl); omega) (by have a0 : (IntKind.wrap .i64 (iShr .u64 (IntKind.wrap .u64 (iAdd .i64 x1 x3)) 1)) < (iSub .i64 (iAdd .i64 (IntKind.wrap .i64 (iShr .u64 (IntKind.wrap .u64 (iAdd .i64 x1 x3)) 1)) x2) r8) := of_decide_eq_true (h.at 0 rfl); have a1 : (iSub .i64 (iAdd .i64 (IntKind.wrap .i64 (iShr .u64 (IntKind.wrap .u64 (iAdd .i64 x1 x3)) 1)) x2) r8) < x3 := of_decide_eq_true (h.at 1 rfl); have a2 : x1 < r8 := of_decide_eq_true (h.at 2 rfl); have a3 : r8 < (IntKind.wrap .i64 (iShr .u64 (IntKind.wrap .u64 (iAdd .i64 x1 x3)) 1)) := of_decide_eq_true (h.at 3 rfl); have a4 : r8 < x2 := of_decide_eq_true (h.at 4 rfl); have a5 : x2 < (iSub .i64 (iAdd .i64 (IntKind.wrap .i64 (iShr .u64 (IntKind.wrap .u64 (iAdd .i64 x1 x3)) 1)) x2) r8) := of_decide_eq_true (h.at 5 rfl); have a6 : (iSub .i64 x3 x2) ≠ 1 := iEq_f.1 (h.at 6 rfl); have a7 : (iSub .i64 x2 x1) ≠ 1 := iEq_f.1 (h.at 7 rfl); omega) (by have a0 : (IntKind.wrap .i64 (iShr .u64 (IntKind.wrap .u64 (iAdd .i64 x1 x3)) 1)) < (iSub .i64 (iAdd .i64 (IntKind.wrap .i64 (iShr .u64 (IntKind.wrap .u64 (iAdd .i64 x1 x3)) 1)) x2) r8) := of_decide_eq_true (h.at 0 rfl); have a1 : (iSub .i64 (iAdd .i64 (IntKind.wrap .i64 (iShr .u64 (IntKind.wrap .u64 (iAdd .i64 x1 x3)) 1)) x2) r8) < x3 := of_decide_eq_true (h.at 1 rfl); have a2 : x1 < r8 := of_decide_eq_true (h.at 2 rfl); have a3 : r8 < (IntKind.wrap .i64 (iShr .u64 (IntKind.wrap .u64 (iAdd .i64 x1 x3)) 1)) := of_decide_eq_true (h.at 3 rfl); have a4 : r8 < x2 := of_decide_eq_true (h.at 4 rfl); have a5 : x2 < (iSub .i64 (iAdd .i64 (IntKind.wrap .i64 (iShr .u64 (IntKind.wrap .u64 (iAdd .i64 x1 x3)) 1)) x2) r8) := of_decide_eq_true (h.at 5 rfl); have a6 : (iSub .i64 x3 x2) ≠ 1 := iEq_f.1 (h.at 6 rfl); have a7 : (iSub .i64 x2 x1) ≠ 1 := iEq_f.1 (h.at 7 rfl); omega) (by have a0 : (IntKind.wrap .i64 (iShr .u64 (IntKind.wrap .u64 (iAdd .i64 x1 x3)) 1)) < (iSub .i64 (iAdd .i64 (IntKind.wrap .i64 (iShr .u64 (IntKind.wrap .u64 (iAdd .i64 x1 x3)) 1)) x2) r8) := of_decide_eq_true (h.at 0 rfl); have a1 : (iSub .i64 (iAdd .i64 (IntKind.wrap .i64 (iShr .u64 (IntKind.wrap .u64 (iAdd .i64 x1 x3)) 1)) x2) r8) < x3 := of_decide_eq_true (h.at 1 rfl); have a2 : x1 < r8 := of_decide_eq_true (h.at 2 rfl); have a3 : r8 < (IntKind.wrap .i64 (iShr .u64 (IntKind.wrap .u64 (iAdd .i64 x1 x3)) 1)) := of_decide_eq_true (h.at 3 rfl); have a4 : r8 < x2 := of_decide_eq_true (h.at 4 rfl); have a5 : x2 < (iSub .i64 (iAdd .i64 (IntKind.wrap .i64 (iShr .u64 (IntKind.wrap .u64 (iAdd .i64 x1 x3)) 1)) x2) r8) := of_decide_eq_true (h.at 5 rfl); have a6 : (iSub .i64 x3 x2) ≠ 1 := iEq_f.1 (h.at 6 rfl); have a7 : (iSub .i64 x2 x1) ≠ 1 := iEq_f.1 (h.at 7 rfl); omega))
    (sc (fun h => pwL_sM n v9 (IntKind.wrap .i64 (iShr .u64 (IntKind.wrap .u64 (iAdd .i64 x1 x3)) 1)) (iSub .i64 (iAdd .i64 (IntKind.wrap .i64 (iShr .u64 (IntKind.wrap .u64 (iAdd .i64 x1 x3)) 1)) x2) r8) x3 ((List.map GKey.enc x0).length) (by first | (rw [List.length_map]; done) | (rw [List.length_map]; have a0 : (IntKind.wrap .i64 (iShr .u64 (IntKind.wrap .u64 (iAdd .i64 x1 x3)) 1)) < (iSub .i64 (iAdd .i64 (IntKind.wrap .i64 (iShr .u64 (IntKind.wrap .u64 (iAdd .i64 x1 x3)) 1)) x2) r8) := of_decide_eq_true (h.at 0 rfl); have a1 : (iSub .i64 (iAdd .i64 (IntKind.wrap .i64 (iShr .u64 (IntKind.wrap .u64 (iAdd .i64 x1 x3)) 1)) x2) r8) < x3 := of_decide_eq_true (h.at 1 rfl); have a3 : r8 < x2 := of_decide_eq_true (h.at 3 rfl); have a4 : x2 < (iSub .i64 (iAdd .i64 (IntKind.wrap .i64 (iShr .u64 (IntKind.wrap .u64 (iAdd .i64 x1 x3)) 1)) x2) r8) := of_decide_eq_true (h.at 4 rfl); have a5 : (iSub .i64 x3 x2) ≠ 1 := iEq_f.1 (h.at 5 rfl); have a6 : (iSub .i64 x2 x1) ≠ 1 := iEq_f.1 (h.at 6 rfl); omega)) (by have a0 : (IntKind.wrap .i64 (iShr .u64 (IntKind.wrap .u64 (iAdd .i64 x1 x3)) 1)) < (iSub .i64 (iAdd .i64 (IntKind.wrap .i64 (iShr .u64 (IntKind.wrap .u64 (iAdd .i64 x1 x3)) 1)) x2) r8) := of_decide_eq_true (h.at 0 rfl); have a1 : (iSub .i64 (iAdd .i64 (IntKind.wrap .i64 (iShr .u64 (IntKind.wrap .u64 (iAdd .i64 x1 x3)) 1)) x2) r8) < x3 := of_decide_eq_true (h.at 1 rfl); have a3 : r8 < x2 := of_decide_eq_true (h.at 3 rfl); have a4 : x2 < (iSub .i64 (iAdd .i64 (IntKind.wrap .i64 (iShr .u64 (IntKind.wrap .u64 (iAdd .i64 x1 x3)) 1)) x2) r8) := of_decide_eq_true (h.at 4 rfl); have a5 : (iSub .i64 x3 x2) ≠ 1 := iEq_f.1 (h.at 5 rfl); have a6 : (iSub .i64 x2 x1) ≠ 1 := iEq_f.1 (h.at 6 rfl); omega) (by have a0 : (IntKind.wrap .i64 (iShr .u64 (IntKind.wrap .u64 (iAdd .i64 x1 x3)) 1)) < (iSub .i64 (iAdd .i64 (IntKind.wrap .i64 (iShr .u64 (IntKind.wrap .u64 (iAdd .i64 x1 x3)) 1)) x2) r8) := of_decide_eq_true (h.at 0 rfl); have a1 : (iSub .i64 (iAdd .i64 (IntKind.wrap .i64 (iShr .u64 (IntKind.wrap .u64 (iAdd .i64 x1 x3)) 1)) x2) r8) < x3 := of_decide_eq_true (h.at 1 rfl); have a3 : r8 < x2 := of_decide_eq_true (h.at 3 rfl); have a4 : x2 < (iSub .i64 (iAdd .i64 (IntKind.wrap .i64 (iShr .u64 (IntKind.wrap .u64 (iAdd .i64 x1 x3)) 1)) x2) r8) := of_decide_eq_true (h.at 4 rfl); have a5 : (iSub .i64 x3 x2) ≠ 1 := iEq_f.1 (h.at 5 rfl); have a6 : (iSub .i64 x2 x1) ≠ 1 := iEq_f.1 (h.at 6 rfl); omega) (by have a0 : (IntKind.wrap .i64 (iShr .u64 (IntKind.wrap .u64 (iAdd .i64 x1 x3)) 1)) < (iSub .i64 (iAdd .i64 (IntKind.wrap .i64 (iShr .u64 (IntKind.wrap .u64 (iAdd .i64 x1 x3)) 1)) x2) r8) := of_decide_eq_true (h.at 0 rfl); have a1 : (iSub .i64 (iAdd .i64 (IntKind.wrap .i64 (iShr .u64 (IntKind.wrap .u64 (iAdd .i64 x1 x3)) 1)) x2) r8) < x3 := of_decide_eq_true (h.at 1 rfl); have a3 : r8 < x2 := of_decide_eq_true (h.at 3 rfl); have a4 : x2 < (iSub .i64 (iAdd .i64 (IntKind.wrap .i64 (iShr .u64 (IntKind.wrap .u64 (iAdd .i64 x1 x3)) 1)) x2) r8) := of_decide_eq_true (h.at 4 rfl); have a5 : (iSub .i64 x3 x2) ≠ 1 := iEq_f.1 (h.at 5 rfl); have a6 : (iSub .i64 x2 x1) ≠ 1 := iEq_f.1 (h.at 6 rfl); omega) (by have a0 : (IntKind.wrap .i64 (iShr .u64 (IntKind.wrap .u64 (iAdd .i64 x1 x3)) 1)) < (iSub .i64 (iAdd .i64 (IntKind.wrap .i64 (iShr .u64 (IntKind.wrap .u64 (iAdd .i64 x1 x3)) 1)) x2) r8) := of_decide_eq_true (h.at 0 rfl); have a1 : (iSub .i64 (iAdd .i64 (IntKind.wrap .i64 (iShr .u64 (IntKind.wrap .u64 (iAdd .i64 x1 x3)) 1)) x2) r8) < x3 := of_decide_eq_true (h.at 1 rfl); have a3 : r8 < x2 := of_decide_eq_true (h.at 3 rfl); have a4 : x2 < (iSub .i64 (iAdd .i64 (IntKind.wrap .i64 (iShr .u64 (IntKind.wrap .u64 (iAdd .i64 x1 x3)) 1)) x2) r8) := of_decide_eq_true (h.at 4 rfl); have a5 : (iSub .i64 x3 x2) ≠ 1 := iEq_f.1 (h.at 5 rfl); have a6 : (iSub .i64 x2 x1) ≠ 1 := iEq_f.1 (h.at 6 rfl); omega) (by have a0 : (IntKind.wrap .i64 (iShr .u64 (IntKind.wrap .u64 (iAdd .i64 x1 x3)) 1)) < (iSub .i64 (iAdd .i64 (IntKind.wrap .i64 (iShr .u64 (IntKind.wrap .u64 (iAdd .i64 x1 x3)) 1)) x2) r8) := of_decide_eq_true (h.at 0 rfl); have a1 : (iSub .i64 (iAdd .i64 (IntKind.wrap .i64 (iShr .u64 (IntKind.wrap .u64 (iAdd .i64 x1 x3)) 1)) x2) r8) < x3 := of_decide_eq_true (h.at 1 rfl); have a3 : r8 < x2 := of_decide_eq_true (h.at 3 rfl); have a4 : x2 < (iSub .i64 (iAdd .i64 (IntKind.wrap .i64 (iShr .u64 (IntKind.wrap .u64 (iAdd .i64 x1 x3)) 1)) x2) r8) := of_decide_eq_true (h.at 4 rfl); have a5 : (iSub .i64 x3 x2) ≠ 1 := iEq_f.1 (h.at 5 rfl); have a6 : (iSub .i64 x2 x1) ≠ 1 := iEq_f.1 (h.at 6 rfl); omega))
    (sc (fun h => pwL_sM n x0 x1 r8 (IntKind.wrap .i64 (iShr .u64 (IntKind.wrap .u64 (iAdd .i64 x1 x3)) 1)) ((List.map GKey.enc x0).length) (by first | (rw [List.length_map]; done) | (rw [List.length_map]; have a0 : x1 < r8 := of_decide_eq_true (h.at 0 rfl); have a1 : r8 < (IntKind.wrap .i64 (iShr .u64 (IntKind.wrap .u64 (iAdd .i64 x1 x3)) 1)) := of_decide_eq_true (h.at 1 rfl); have a3 : (iSub .i64 x3 x2) ≠ 1 := iEq_f.1 (h.at 3 rfl); have a4 : (iSub .i64 x2 x1) ≠ 1 := iEq_f.1 (h.at 4 rfl); omega)) (by have a0 : x1 < r8 := of_decide_eq_true (h.at 0 rfl); have a1 : r8 < (IntKind.wrap .i64 (iShr .u64 (IntKind.wrap .u64 (iAdd .i64 x1 x3)) 1)) := of_decide_eq_true (h.at 1 rfl); have a3 : (iSub .i64 x3 x2) ≠ 1 := iEq_f.1 (h.at 3 rfl); have a4 : (iSub .i64 x2 x1) ≠ 1 := iEq_f.1 (h.at 4 rfl); omega) (by have a0 : x1 < r8 := of_decide_eq_true (h.at 0 rfl); have a1 : r8 < (IntKind.wrap .i64 (iShr .u64 (IntKind.wrap .u64 (iAdd .i64 x1 x3)) 1)) := of_decide_eq_true (h.at 1 rfl); have a3 : (iSub .i64 x3 x2) ≠ 1 := iEq_f.1 (h.at 3 rfl); have a4 : (iSub .i64 x2 x1) ≠ 1 := iEq_f.1 (h.at 4 rfl); omega) (by have a0 : x1 < r8 := of_decide_eq_true (h.at 0 rfl); have a1 : r8 < (IntKind.wrap .i64 (iShr .u64 (IntKind.wrap .u64 (iAdd .i64 x1 x3)) 1)) := of_decide_eq_true (h.at 1 rfl); have a3 : (iSub .i64 x3 x2) ≠ 1 := iEq_f.1 (h.at 3 rfl); have a4 : (iSub .i64 x2 x1) ≠ 1 := iEq_f.1 (h.at 4 rfl); omega) (by have a0 : x1 < r8 := of_decide_eq_true (h.at 0 rfl); have a1 : r8 < (IntKind.wrap .i64 (iShr .u64 (IntKind.wrap .u64 (iAdd .i64 x1 x3)) 1)) := of_decide_eq_true (h.at 1 rfl); have a3 : (iSub .i64 x3 x2) ≠ 1 := iEq_f.1 (h.at 3 rfl); have a4 : (iSub .i64 x2 x1) ≠ 1 := iEq_f.1 (h.at 4 rfl); omega) (by have a0 : x1 < r8 := of_decide_eq_true (h.at 0 rfl); have a1 : r8 < (IntKind.wrap .i64 (iShr .u64 (IntKind.wrap .u64 (iAdd .i64 x1 x3)) 1)) := of_decide_eq_true (h.at 1 rfl); have a3 : (iSub .i64 x3 x2) ≠ 1 := iEq_f.1 (h.at 3 rfl); have a4 : (iSub .i64 x2 x1) ≠ 1 := iEq_f.1 (h.at 4 rfl); omega))
    (sc (fun h => pwL_sM n v17 (IntKind.wrap .i64 (iShr .u64 (IntKind.wrap .u64 (iAdd .i64 x1 x3)) 1)) (iSub .i64 (iAdd .i64 (IntKind.wrap .i64 (iShr .u64 (IntKind.wrap .u64 (iAdd .i64 x1 x3)) 1)) x2) r8) x3 ((List.map GKey.enc x0).length) (by first | (rw [List.length_map]; done) | (rw [List.length_map]; have a0 : (IntKind.wrap .i64 (iShr .u64 (IntKind.wrap .u64 (iAdd .i64 x1 x3)) 1)) < (iSub .i64 (iAdd .i64 (IntKind.wrap .i64 (iShr .u64 (IntKind.wrap .u64 (iAdd .i64 x1 x3)) 1)) x2) r8) := of_decide_eq_true (h.at 0 rfl); have a1 : (iSub .i64 (iAdd .i64 (IntKind.wrap .i64 (iShr .u64 (IntKind.wrap .u64 (iAdd .i64 x1 x3)) 1)) x2) r8) < x3 := of_decide_eq_true (h.at 1 rfl); have a2 : x1 < r8 := of_decide_eq_true (h.at 2 rfl); have a3 : r8 < (IntKind.wrap .i64 (iShr .u64 (IntKind.wrap .u64 (iAdd .i64 x1 x3)) 1)) := of_decide_eq_true (h.at 3 rfl); have a5 : (iSub .i64 x3 x2) ≠ 1 := iEq_f.1 (h.at 5 rfl); have a6 : (iSub .i64 x2 x1) ≠ 1 := iEq_f.1 (h.at 6 rfl); omega)) (by have a0 : (IntKind.wrap .i64 (iShr .u64 (IntKind.wrap .u64 (iAdd .i64 x1 x3)) 1)) < (iSub .i64 (iAdd .i64 (IntKind.wrap .i64 (iShr .u64 (IntKind.wrap .u64 (iAdd .i64 x1 x3)) 1)) x2) r8) := of_decide_eq_true (h.at 0 rfl); have a1 : (iSub .i64 (iAdd .i64 (IntKind.wrap .i64 (iShr .u64 (IntKind.wrap .u64 (iAdd .i64 x1 x3)) 1)) x2) r8) < x3 := of_decide_eq_true (h.at 1 rfl); have a2 : x1 < r8 := of_decide_eq_true (h.at 2 rfl); have a3 : r8 < (IntKind.wrap .i64 (iShr .u64 (IntKind.wrap .u64 (iAdd .i64 x1 x3)) 1)) := of_decide_eq_true (h.at 3 rfl); have a5 : (iSub .i64 x3 x2) ≠ 1 := iEq_f.1 (h.at 5 rfl); have a6 : (iSub .i64 x2 x1) ≠ 1 := iEq_f.1 (h.at 6 rfl); omega) (by have a0 : (IntKind.wrap .i64 (iShr .u64 (IntKind.wrap .u64 (iAdd .i64 x1 x3)) 1)) < (iSub .i64 (iAdd .i64 (IntKind.wrap .i64 (iShr .u64 (IntKind.wrap .u64 (iAdd .i64 x1 x3)) 1)) x2) r8) := of_decide_eq_true (h.at 0 rfl); have a1 : (iSub .i64 (iAdd .i64 (IntKind.wrap .i64 (iShr .u64 (IntKind.wrap .u64 (iAdd .i64 x1 x3)) 1)) x2) r8) < x3 := of_decide_eq_true (h.at 1 rfl); have a2 : x1 < r8 := of_decide_eq_true (h.at 2 rfl); have a3 : r8 < (IntKind.wrap .i64 (iShr .u64 (IntKind.wrap .u64 (iAdd .i64 x1 x3)) 1)) := of_decide_eq_true (h.at 3 rfl); have a5 : (iSub .i64 x3 x2) ≠ 1 := iEq_f.1 (h.at 5 rfl); have a6 : (iSub .i64 x2 x1) ≠ 1 := iEq_f.1 (h.at 6 rfl); omega) (by have a0 : (IntKind.wrap .i64 (iShr .u64 (IntKind.wrap .u64 (iAdd .i64 x1 x3)) 1)) < (iSub .i64 (iAdd .i64 (IntKind.wrap .i64 (iShr .u64 (IntKind.wrap .u64 (iAdd .i64 x1 x3)) 1)) x2) r8) := of_decide_eq_true (h.at 0 rfl); have a1 : (iSub .i64 (iAdd .i64 (IntKind.wrap .i64 (iShr .u64 (IntKind.wrap .u64 (iAdd .i64 x1 x3)) 1)) x2) r8) < x3 := of_decide_eq_true (h.at 1 rfl); have a2 : x1 < r8 := of_decide_eq_true (h.at 2 rfl); have a3 : r8 < (IntKind.wrap .i64 (iShr .u64 (IntKind.wrap .u64 (iAdd .i64 x1 x3)) 1)) := of_decide_eq_true (h.at 3 rfl); have a5 : (iSub .i64 x3 x2) ≠ 1 := iEq_f.1 (h.at 5 rfl); have a6 : (iSub .i64 x2 x1) ≠ 1 := iEq_f.1 (h.at 6 rfl); omega) (by have a0 : (IntKind.wrap .i64 (iShr .u64 (IntKind.wrap .u64 (iAdd .i64 x1 x3)) 1)) < (iSub .i64 (iAdd .i64 (IntKind.wrap .i64 (iShr .u64 (IntKind.wrap .u64 (iAdd .i64 x1 x3)) 1)) x2) r8) := of_decide_eq_true (h.at 0 rfl); have a1 : (iSub .i64 (iAdd .i64 (IntKind.wrap .i64 (iShr .u64 (IntKind.wrap .u64 (iAdd .i64 x1 x3)) 1)) x2) r8) < x3 := of_decide_eq_true (h.at 1 rfl); have a2 : x1 < r8 := of_decide_eq_true (h.at 2 rfl); have a3 : r8 < (IntKind.wrap .i64 (iShr .u64 (IntKind.wrap .u64 (iAdd .i64 x1 x3)) 1)) := of_decide_eq_true (h.at 3 rfl); have a5 : (iSub .i64 x3 x2) ≠ 1 := iEq_f.1 (h.at 5 rfl); have a6 : (iSub .i64 x2 x1) ≠ 1 := iEq_f.1 (h.at 6 rfl); omega) (by have a0 : (IntKind.wrap .i64 (iShr .u64 (IntKind.wrap .u64 (iAdd .i64 x1 x3)) 1)) < (iSub .i64 (iAdd .i64 (IntKind.wrap .i64 (iShr .u64 (IntKind.wrap .u64 (iAdd .i64 x1 x3)) 1)) x2) r8) := of_decide_eq_true (h.at 0 rfl); have a1 : (iSub .i64 (iAdd .i64 (IntKind.wrap .i64 (iShr .u64 (IntKind.wrap .u64 (iAdd .i64 x1 x3)) 1)) x2) r8) < x3 := of_decide_eq_true (h.at 1 rfl); have a2 : x1 < r8 := of_decide_eq_true (h.at 2 rfl); have a3 : r8 < (IntKind.wrap .i64 (iShr .u64 (IntKind.wrap .u64 (iAdd .i64 x1 x3)) 1)) := of_decide_eq_true (h.at 3 rfl); have a5 : (iSub .i64 x3 x2) ≠ 1 := iEq_f.1 (h.at 5 rfl); have a6 : (iSub .i64 x2 x1) ≠ 1 := iEq_f.1 (h.at 6 rfl); omega))
    (sc (fun h => pwL_sM n x0 (IntKind.wrap .i64 (iShr .u64 (IntKind.wrap .u64 (iAdd .i64 x1 x3)) 1)) (iSub .i64 (iAdd .i64 (IntKind.wrap .i64 (iShr .u64 (IntKind.wrap .u64 (iAdd .i64 x1 x3)) 1)) x2) r8) x3 ((List.map GKey.enc x0).length) (by first | (rw [List.length_map]; done) | (rw [List.length_map]; have a0 : (IntKind.wrap .i64 (iShr .u64 (IntKind.wrap .u64 (iAdd .i64 x1 x3)) 1)) < (iSub .i64 (iAdd .i64 (IntKind.wrap .i64 (iShr .u64 (IntKind.wrap .u64 (iAdd .i64 x1 x3)) 1)) x2) r8) := of_decide_eq_true (h.at 0 rfl); have a1 : (iSub .i64 (iAdd .i64 (IntKind.wrap .i64 (iShr .u64 (IntKind.wrap .u64 (iAdd .i64 x1 x3)) 1)) x2) r8) < x3 := of_decide_eq_true (h.at 1 rfl); have a4 : (iSub .i64 x3 x2) ≠ 1 := iEq_f.1 (h.at 4 rfl); have a5 : (iSub .i64 x2 x1) ≠ 1 := iEq_f.1 (h.at 5 rfl); omega)) (by have a0 : (IntKind.wrap .i64 (iShr .u64 (IntKind.wrap .u64 (iAdd .i64 x1 x3)) 1)) < (iSub .i64 (iAdd .i64 (IntKind.wrap .i64 (iShr .u64 (IntKind.wrap .u64 (iAdd .i64 x1 x3)) 1)) x2) r8) := of_decide_eq_true (h.at 0 rfl); have a1 : (iSub .i64 (iAdd .i64 (IntKind.wrap .i64 (iShr .u64 (IntKind.wrap .u64 (iAdd .i64 x1 x3)) 1)) x2) r8) < x3 := of_decide_eq_true (h.at 1 rfl); have a4 : (iSub .i64 x3 x2) ≠ 1 := iEq_f.1 (h.at 4 rfl); have a5 : (iSub .i64 x2 x1) ≠ 1 := iEq_f.1 (h.at 5 rfl); omega) (by have a0 : (IntKind.wrap .i64 (iShr .u64 (IntKind.wrap .u64 (iAdd .i64 x1 x3)) 1)) < (iSub .i64 (iAdd .i64 (IntKind.wrap .i64 (iShr .u64 (IntKind.wrap .u64 (iAdd .i64 x1 x3)) 1)) x2) r8) := of_decide_eq_true (h.at 0 rfl); have a1 : (iSub .i64 (iAdd .i64 (IntKind.wrap .i64 (iShr .u64 (IntKind.wrap .u64 (iAdd .i64 x1 x3)) 1)) x2) r8) < x3 := of_decide_eq_true (h.at 1 rfl); have a4 : (iSub .i64 x3 x2) ≠ 1 := iEq_f.1 (h.at 4 rfl); have a5 : (iSub .i64 x2 x1) ≠ 1 := iEq_f.1 (h.at 5 rfl); omega) (by have a0 : (IntKind.wrap .i64 (iShr .u64 (IntKind.wrap .u64 (iAdd .i64 x1 x3)) 1)) < (iSub .i64 (iAdd .i64 (IntKind.wrap .i64 (iShr .u64 (IntKind.wrap .u64 (iAdd .i64 x1 x3)) 1)) x2) r8) := of_decide_eq_true (h.at 0 rfl); have a1 : (iSub .i64 (iAdd .i64 (IntKind.wrap .i64 (iShr .u64 (IntKind.wrap .u64 (iAdd .i64 x1 x3)) 1)) x2) r8) < x3 := of_decide_eq_true (h.at 1 rfl); have a4 : (iSub .i64 x3 x2) ≠ 1 := iEq_f.1 (h.at 4 rfl); have a5 : (iSub .i64 x2 x1) ≠ 1 := iEq_f.1 (h.at 5 rfl); omega) (by have a0 : (IntKind.wrap .i64 (iShr .u64 (IntKind.wrap .u64 (iAdd .i64 x1 x3)) 1)) < (iSub .i64 (iAdd .i64 (IntKind.wrap .i64 (iShr .u64 (IntKind.wrap .u64 (iAdd .i64 x1 x3)) 1)) x2) r8) := of_decide_eq_true (h.at 0 rfl); have a1 : (iSub .i64 (iAdd .i64 (IntKind.wrap .i64 (iShr .u64 (IntKind.wrap .u64 (iAdd .i64 x1 x3)) 1)) x2) r8) < x3 := of_decide_eq_true (h.at 1 rfl); have a4 : (iSub .i64 x3 x2) ≠ 1 := iEq_f.1 (h.at 4 rfl); have a5 : (iSub .i64 x2 x1) ≠ 1 := iEq_f.1 (h.at 5 rfl); omega) (by have a0 : (IntKind.wrap .i64 (iShr .u64 (IntKind.wrap .u64 (iAdd .i64 x1 x3)) 1)) < (iSub .i64 (iAdd .i64 (IntKind.wrap .i64 (iShr .u64 (IntKind.wrap .u64 (iAdd .i64 x1 x3)) 1)) x2) r8) := of_decide_eq_true (h.at 0 rfl); have a1 : (iSub .i64 (iAdd .i64 (IntKind.wrap .i64 (iShr .u64 (IntKind.wrap .u64 (iAdd .i64 x1 x3)) 1)) x2) r8) < x3 := of_decide_eq_true (h.at 1 rfl); have a4 : (iSub .i64 x3 x2) ≠ 1 := iEq_f.1 (h.at 4 rfl); have a5 : (iSub .i64 x2 x1) ≠ 1 := iEq_f.1 (h.at 5 rfl); omega))
    (sn))))))))
    (ll_cons (lo_mk1 ((x3 - x2).toNat + 1) [(.p (.int .i64 r4))] rfl (fun h hb => lp_sM_l4 x0 x1 x2 x3  hb0 h0 h1 h2 h3 ((x3 - x2).toNat + 1) (x2) (x3) (by have a0 : (iSub .i64 x2 x1) = 1 := iEq_t.1 (h.at 0 rfl); refine ⟨?_, ?_, ?_⟩ <;> (omega)) (by have a0 : (iSub .i64 x2 x1) = 1 := iEq_t.1 (h.at 0 rfl); omega)) rfl)
    (ll_cons (lo_mk1 (((iSub .i64 r4 1) : Int).toNat + 1) [(.sl (List.map GKey.enc r5) false)] rfl (fun h hb => lp_sM_l5 x0 x1 x2 x3 r4  hb0 h0 h1 h2 h3 (by have a0 : (iSub .i64 x2 x1) = 1 := iEq_t.1 (h.at 0 rfl); omega) (by have a0 : (iSub .i64 x2 x1) = 1 := iEq_t.1 (h.at 0 rfl); omega) (((iSub .i64 r4 1) : Int).toNat + 1) (x1) (x0) (by have a0 : (iSub .i64 x2 x1) = 1 := iEq_t.1 (h.at 0 rfl); refine ⟨?_, ?_, ?_, ?_⟩ <;> (omega)) (by have a0 : (iSub .i64 x2 x1) = 1 := iEq_t.1 (h.at 0 rfl); omega)) rfl)
    (ll_cons (lo_mk1 ((x2 - x1).toNat + 1) [(.p (.int .i64 r6))] rfl (fun h hb => lp_sM_l6 x0 x1 x2 x3 r4 r5  hb0 h0 h1 h2 h3 ((x2 - x1).toNat + 1) (x1) (x2) (by have a0 : (iSub .i64 x3 x2) = 1 := iEq_t.1 (h.at 0 rfl); have a1 : (iSub .i64 x2 x1) ≠ 1 := iEq_f.1 (h.at 1 rfl); refine ⟨?_, ?_, ?_⟩ <;> (omega)) (by have a0 : (iSub .i64 x3 x2) = 1 := iEq_t.1 (h.at 0 rfl); have a1 : (iSub .i64 x2 x1) ≠ 1 := iEq_f.1 (h.at 1 rfl); omega)) rfl)
    (ll_cons (lo_mk1 ((x2 - x1).toNat + 1) [(.sl (List.map GKey.enc r7) false)] rfl (fun h hb => lp_sM_l7 x0 x1 x2 x3 r4 r5 r6  hb0 h0 h1 h2 h3 (by have a0 : (iSub .i64 x3 x2) = 1 := iEq_t.1 (h.at 0 rfl); have a1 : (iSub .i64 x2 x1) ≠ 1 := iEq_f.1 (h.at 1 rfl); omega) (by have a0 : (iSub .i64 x3 x2) = 1 := iEq_t.1 (h.at 0 rfl); have a1 : (iSub .i64 x2 x1) ≠ 1 := iEq_f.1 (h.at 1 rfl); omega) ((x2 - x1).toNat + 1) (x2) (x0) (by have a0 : (iSub .i64 x3 x2) = 1 := iEq_t.1 (h.at 0 rfl); have a1 : (iSub .i64 x2 x1) ≠ 1 := iEq_f.1 (h.at 1 rfl); refine ⟨?_, ?_, ?_⟩ <;> (omega)) (by have a0 : (iSub .i64 x3 x2) = 1 := iEq_t.1 (h.at 0 rfl); have a1 : (iSub .i64 x2 x1) ≠ 1 := iEq_f.1 (h.at 1 rfl); omega)) rfl)
    (ll_cons (lo_mk1 ((x3 - x1).toNat + 1) [(.p (.int .i64 r8))] rfl (fun h hb => lp_sM_l8 x0 x1 x2 x3 r4 r5 r6 r7  hb0 h0 h1 h2 h3 ((x3 - x1).toNat + 1) ((bif (decide ((x2 : Int) > (IntKind.wrap .i64 (iShr .u64 (IntKind.wrap .u64 (iAdd .i64 x1 x3)) 1)))) then (iSub .i64 (iAdd .i64 (IntKind.wrap .i64 (iShr .u64 (IntKind.wrap .u64 (iAdd .i64 x1 x3)) 1)) x2) x3) else x1)) ((bif (decide ((x2 : Int) > (IntKind.wrap .i64 (iShr .u64 (IntKind.wrap .u64 (iAdd .i64 x1 x3)) 1)))) then (IntKind.wrap .i64 (iShr .u64 (IntKind.wrap .u64 (iAdd .i64 x1 x3)) 1)) else x2)) (by have a0 : (iSub .i64 x3 x2) ≠ 1 := iEq_f.1 (h.at 0 rfl); have a1 : (iSub .i64 x2 x1) ≠ 1 := iEq_f.1 (h.at 1 rfl); refine ⟨?_, ?_, ?_, ?_, ?_⟩ <;> (omega)) (by have a0 : (iSub .i64 x3 x2) ≠ 1 := iEq_f.1 (h.at 0 rfl); have a1 : (iSub .i64 x2 x1) ≠ 1 := iEq_f.1 (h.at 1 rfl); omega)) rfl)
    (ll_nil))))))
    rfl rfl (selE (fun r => .tup [.tup [], .sl (List.map GKey.enc r) false]) rfl rfl (selE (fun r => .tup [.tup [], .sl (List.map GKey.enc r) false]) rfl rfl (selE (fun r => .tup [.tup [], .sl (List.map GKey.enc r) false]) rfl rfl (selE (fun r => .tup [.tup [], .sl (List.map GKey.enc r) false]) rfl rfl (selE (fun r => .tup [.tup [], .sl (List.map GKey.enc r) false]) rfl rfl (selE (fun r => .tup [.tup [], .sl (List.map GKey.enc r) false]) rfl rfl (selE (fun r => .tup [.tup [], .sl (List.map GKey.enc r) false]) rfl rfl (selE (fun r => .tup [.tup [], .sl (List.map GKey.enc r) false]) rfl rfl (selE (fun r => .tup [.tup [], .sl (List.map GKey.enc r) false]) rfl rfl (selL rfl)))))))))) rfl
def rk_sS_l2 (r : Int × Int × List GKey) : Nat × List AV := (0, [(.p (.int .i64 r.1)), (.p (.int .i64 r.2.1)), (.sl (List.map GKey.enc r.2.2) false)])
theorem lp_sS_l2 (x0 : List GKey) (x1 : Int) (hb0 : x0.length ≤ 4294967296) (h0 : 0 ≤ x1) (h1 : x1 ≤ x0.length) : ∀ (n : Nat) (u2 : Int) (u3 : Int) (u4 : List GKey), (0 ≤ u2 ∧ u3 = u2 + 20 ∧ u4.length = x0.length ∧ u2 ≤ x1) → (x1 + 20 - u2).toNat < n → RunN (fun σ => SidesOk Try.prog σ zz80 ∧ LoL Try.prog [] σ)
  zz81
  [(.sl (List.map GKey.enc x0) false), (.p (.int .i64 x1))] 3 n [(.p (.int .i64 u2)), (.p (.int .i64 u3)), (.sl (List.map GKey.enc u4) false)] (rk_sS_l2 (sS_l2 x1 n u2 u3 u4)).1 (rk_sS_l2 (sS_l2 x1 n u2 u3 u4)).2
 | 0, u2, u3, u4, hi, hm => absurd hm (Nat.not_lt_zero _)
 | n + 1, u2, u3, u4, hi, hm =>
  let w5 : List GKey := sI u4 u2 u3
  let v5 : List GKey := w5
  have hp5_0 : v5.length = u4.length := insertionSort_len
  have ia0 : (iAdd .i64 u3 20) = u3 + 20 := iAddC (by omega) (by omega)
  rn_mk (r := rk_sS_l2 (sS_l2 x1 (n + 1) u2 u3 u4)) [(.sl (List.map GKey.enc v5) false), undefA] [(.sl (List.map GKey.enc x0) false), (.p (.int .i64 x1)), (.p (.int .i64 u2)), (.p (.int .i64 u3)), (.sl (List.map GKey.enc u4) false), (.sl (List.map GKey.enc v5) false), undefA] rfl rfl (fzc (fzs GKey.fzL _) (fzc rfl (fzc rfl (fzc rfl (fzc (fzs GKey.fzL _) (fzc (fzs GKey.fzL _) (fzc rfl (fzn)))))))) ⟨SidesC.ok (sc (fun h => pwL_sI u4 u2 u3 ((List.map GKey.enc x0).length) (by first | (rw [List.length_map]; done) | (rw [List.length_map]; have a0 : u3 ≤ x1 := of_decide_eq_true (h.at 0 rfl); omega)) (by have a0 : u3 ≤ x1 := of_decide_eq_true (h.at 0 rfl); omega) (by have a0 : u3 ≤ x1 := of_decide_eq_true (h.at 0 rfl); omega) (by have a0 : u3 ≤ x1 := of_decide_eq_true (h.at 0 rfl); omega))
   (sn)),
   ll_nil⟩
   (rn_cons rk_sS_l2 (c := (!(decide ((u3 : Int) ≤ x1)))) rfl (fun hc0 => rn_exit rfl rfl) (fun hc0 => rn_last (rn_go rfl (lp_sS_l2 x0 x1 hb0 h0 h1 n (u3) ((iAdd .i64 u3 20)) (v5) (by have g0_0 : u3 ≤ x1 := of_decide_eq_true (bn_f hc0); refine ⟨?_, ?_, ?_, ?_⟩ <;> (omega)) (by have g0_0 : u3 ≤ x1 := of_decide_eq_true (bn_f hc0); omega)))))
def rk_sS_l11 (r : Int × Int × List GKey) : Nat × List AV := (0, [(.p (.int .i64 r.1)), (.p (.int .i64 r.2.1)), (.sl (List.map GKey.enc r.2.2) false)])
theorem lp_sS_l11 (x0 : List GKey) (x1 : Int) (r2 : Int × Int × List GKey) (v5 : List GKey) (u7 : Int) (u8 : Int) (u9 : Int) (u10 : List GKey) (hb0 : x0.length ≤ 4294967296) (h0 : 0 ≤ x1) (h1 : x1 ≤ x0.length) (q0 : u7 < x1) (q1 : 20 ≤ u7) (q2 : u10.length = x0.length) : ∀ (n : Nat) (u11 : Int) (u12 : Int) (u13 : List GKey), (0 ≤ u11 ∧ u12 = u11 + 2 * u7 ∧ u13.length = x0.length ∧ u11 ≤ x1) → (x1 + 2 * u7 - u11).toNat < n → RunN (fun σ => SidesOk Try.prog σ [([((.bin .leq (.int .i64) (.var 12 []) (.var 1 [])), true), ((.bin .lss (.int .i64) (.var 7 []) (.var 1 [])), true)], (.callw 125 [zz7, (.sc (.int .i64) (.var 11 [])), (.sc (.int .i64) (.bin .add (.int .i64) (.var 11 []) (.var 7 []))), (.sc (.int .i64) (.var 12 []))] [(3, (.rows 1 [zz13])), (2, (.rowsT 2 (.var 13 [])))] 4 (.tup []) [(3, (.rows 1 [zz13])), (2, (.rowsT 2 (.var 14 [])))]))] ∧ LoL Try.prog [] σ)
  [((.not (.bin .leq (.int .i64) (.var 12 []) (.var 1 []))), 1, [(.sc (.int .i64) (.var 11 [])), (.sc (.int .i64) (.var 12 [])), (.sc .sl (.var 13 []))]), ((.lb true), 0, [(.sc (.int .i64) (.var 12 [])), (.sc (.int .i64) (.bin .add (.int .i64) (.var 12 []) (.bin .mul (.int .i64) (.li 2) (.var 7 [])))), (.sc .sl (.var 14 []))])]
  [(.sl (List.map GKey.enc x0) false), (.p (.int .i64 x1)), (.p (.int .i64 r2.1)), (.p (.int .i64 r2.2.1)), (.sl (List.map GKey.enc r2.2.2) false), (.sl (List.map GKey.enc v5) false), undefA, (.p (.int .i64 u7)), (.p (.int .i64 u8)), (.p (.int .i64 u9)), (.sl (List.map GKey.enc u10) false)] 3 n [(.p (.int .i64 u11)), (.p (.int .i64 u12)), (.sl (List.map GKey.enc u13) false)] (rk_sS_l11 (sS_l11 x1 u7 n u11 u12 u13)).1 (rk_sS_l11 (sS_l11 x1 u7 n u11 u12 u13)).2
 | 0, u11, u12, u13, hi, hm => absurd hm (Nat.not_lt_zero _)
 | n + 1, u11, u12, u13, hi, hm =>
  let w14 : List GKey := sM ((u12 - u11).toNat + 1) u13 u11 (iAdd .i64 u11 u7) u12
  let v14 : List GKey := w14
  have hp14_0 : v14.length = u13.length := symMerge_len
  have ia0 : (iAdd .i64 u11 u7) = u11 + u7 := iAddC (by omega) (by omega)
  have ia1 : (iMul .i64 2 u7) = 2 * u7 := iMulC (by omega) (by omega)
  have ia2 : (iAdd .i64 u12 (iMul .i64 2 u7)) = u12 + (iMul .i64 2 u7) := iAddC (by omega) (by omega)
  rn_mk (r := rk_sS_l11 (sS_l11 x1 u7 (n + 1) u11 u12 u13)) [(.sl (List.map GKey.enc v14) false), undefA] [(.sl (List.map GKey.enc x0) false), (.p (.int .i64 x1)), (.p (.int .i64 r2.1)), (.p (.int .i64 r2.2.1)), (.sl (List.map GKey.enc r2.2.2) false), (.sl (List.map GKey.enc v5) false), undefA, (.p (.int .i64 u7)), (.p (.int .i64 u8)), (.p (.int .i64 u9)), (.sl (List.map GKey.enc u10) false), (.p (.int .i64 u11)), (.p (.int .i64 u12)), (.sl (List.map GKey.enc u13) false), (.sl (List.map GKey.enc v14) false), undefA] rfl rfl (fzc (fzs GKey.fzL _) (fzc rfl (fzc rfl (fzc rfl (fzc (fzs GKey.fzL _) (fzc (fzs GKey.fzL _) (fzc rfl (fzc rfl (fzc rfl (fzc rfl (fzc (fzs GKey.fzL _) (fzc rfl (fzc rfl (fzc (fzs GKey.fzL _) (fzc (fzs GKey.fzL _) (fzc rfl (fzn))))))))))))))))) ⟨SidesC.ok (sc (fun h => pwL_sM ((u12 - u11).toNat + 1) u13 u11 (iAdd .i64 u11 u7) u12 ((List.map GKey.enc x0).length) (by first | (rw [List.length_map]; done) | (rw [List.length_map]; have a0 : u12 ≤ x1 := of_decide_eq_true (h.at 0 rfl); have a1 : u7 < x1 := of_decide_eq_true (h.at 1 rfl); omega)) (by have a0 : u12 ≤ x1 := of_decide_eq_true (h.at 0 rfl); have a1 : u7 < x1 := of_decide_eq_true (h.at 1 rfl); omega) (by have a0 : u12 ≤ x1 := of_decide_eq_true (h.at 0 rfl); have a1 : u7 < x1 := of_decide_eq_true (h.at 1 rfl); omega) (by have a0 : u12 ≤ x1 := of_decide_eq_true (h.at 0 rfl); have a1 : u7 < x1 := of_decide_eq_true (h.at 1 rfl); omega) (by have a0 : u12 ≤ x1 := of_decide_eq_true (h.at 0 rfl); have a1 : u7 < x1 := of_decide_eq_true (h.at 1 rfl); omega) (by have a0 : u12 ≤ x1 := of_decide_eq_true (h.at 0 rfl); have a1 : u7 < x1 := of_decide_eq_true (h.at 1 rfl); omega))
   (sn)),
   ll_nil⟩
   (rn_cons rk_sS_l11 (c := (!(decide ((u12 : Int) ≤ x1)))) rfl (fun hc0 => rn_exit rfl rfl) (fun hc0 => rn_last (rn_go rfl (lp_sS_l11 x0 x1 r2 v5 u7 u8 u9 u10 hb0 h0 h1 q0 q1 q2 n (u12) ((iAdd .i64 u12 (iMul .i64 2 u7))) (v14) (by have g0_0 : u12 ≤ x1 := of_decide_eq_true (bn_f hc0); refine ⟨?_, ?_, ?_, ?_⟩ <;> (omega)) (by have g0_0 : u12 ≤ x1 := of_decide_eq_true (bn_f hc0); omega)))))
def rk_sS_l7 (r : List GKey) : Nat × List AV := (0, [(.sl (List.map GKey.enc r) false)])
theorem lp_sS_l7 (x0 : List GKey) (x1 : Int) (r2 : Int × Int × List GKey) (v5 : List GKey) (hb0 : x0.length ≤ 4294967296) (h0 : 0 ≤ x1) (h1 : x1 ≤ x0.length) : ∀ (n : Nat) (u7 : Int) (u8 : Int) (u9 : Int) (u10 : List GKey), (20 ≤ u7 ∧ u10.length = x0.length ∧ u7 ≤ 2 * x1 + 20) → (x1 - u7).toNat < n → RunN (fun σ => SidesOk Try.prog σ zz53 ∧ LoL Try.prog zz20 σ)
  zz43
  [(.sl (List.map GKey.enc x0) false), (.p (.int .i64 x1)), (.p (.int .i64 r2.1)), (.p (.int .i64 r2.2.1)), (.sl (List.map GKey.enc r2.2.2) false), (.sl (List.map GKey.enc v5) false), undefA] 4 n [(.p (.int .i64 u7)), (.p (.int .i64 u8)), (.p (.int .i64 u9)), (.sl (List.map GKey.enc u10) false)] (rk_sS_l7 (sS_l7 x1 n u7 u8 u9 u10)).1 (rk_sS_l7 (sS_l7 x1 n u7 u8 u9 u10)).2
 | 0, u7, u8, u9, u10, hi, hm => absurd hm (Nat.not_lt_zero _)
 | n + 1, u7, u8, u9, u10, hi, hm =>
  let r11 : Int × Int × List GKey := sS_l11 x1 u7 ((x1 + 2 * u7).toNat + 1) 0 (iMul .i64 2 u7) u10
  let w14 : List GKey := sM ((x1 - r11.1).toNat + 1) r11.2.2 r11.1 (iAdd .i64 r11.1 u7) x1
  let v14 : List GKey := w14
  have hp11_0 : r11.2.2.length = u10.length := stable_l11_len
  have hp11_1 : 0 ≤ r11.1 ∧ r11.1 ≤ x1 := stable_l11_bd h0 h1 hb0 hi.1 hi.2.2
  have hp14_0 : v14.length = r11.2.2.length := symMerge_len
  have ia0 : (iAdd .i64 r11.1 u7) = r11.1 + u7 := iAddC (by omega) (by omega)
  have ia1 : (iMul .i64 2 u7) = 2 * u7 := iMulC (by omega) (by omega)
  have ia2 : (iMul .i64 u7 2) = u7 * 2 := iMulC (by omega) (by omega)
  rn_mk (r := rk_sS_l7 (sS_l7 x1 (n + 1) u7 u8 u9 u10)) [(.p (.int .i64 r11.1)), (.p (.int .i64 r11.2.1)), (.sl (List.map GKey.enc r11.2.2) false), (.sl (List.map GKey.enc v14) false), undefA] [(.sl (List.map GKey.enc x0) false), (.p (.int .i64 x1)), (.p (.int .i64 r2.1)), (.p (.int .i64 r2.2.1)), (.sl (List.map GKey.enc r2.2.2) false), (.sl (List.map GKey.enc v5) false), undefA, (.p (.int .i64 u7)), (.p (.int .i64 u8)), (.p (.int .i64 u9)), (.sl (List.map GKey.enc u10) false), (.p (.int .i64 r11.1)), (.p (.int .i64 r11.2.1)), (.sl (List.map GKey.enc r11.2.2) false), (.sl (List.map GKey.enc v14) false), undefA] rfl rfl (fzc (fzs GKey.fzL _) (fzc rfl (fzc rfl (fzc rfl (fzc (fzs GKey.fzL _) (fzc (fzs GKey.fzL _) (fzc rfl (fzc rfl (fzc rfl (fzc rfl (fzc (fzs GKey.fzL _) (fzc rfl (fzc rfl (fzc (fzs GKey.fzL _) (fzc (fzs GKey.fzL _) (fzc rfl (fzn))))))))))))))))) ⟨SidesC.ok (sc (fun h => pwL_sM ((x1 - r11.1).toNat + 1) r11.2.2 r11.1 (iAdd .i64 r11.1 u7) x1 ((List.map GKey.enc x0).length) (by first | (rw [List.length_map]; done) | (rw [List.length_map]; have a0 : (iAdd .i64 r11.1 u7) < x1 := of_decide_eq_true (h.at 0 rfl); have a1 : u7 < x1 := of_decide_eq_true (h.at 1 rfl); omega)) (by have a0 : (iAdd .i64 r11.1 u7) < x1 := of_decide_eq_true (h.at 0 rfl); have a1 : u7 < x1 := of_decide_eq_true (h.at 1 rfl); omega) (by have a0 : (iAdd .i64 r11.1 u7) < x1 := of_decide_eq_true (h.at 0 rfl); have a1 : u7 < x1 := of_decide_eq_true (h.at 1 rfl); omega) (by have a0 : (iAdd .i64 r11.1 u7) < x1 := of_decide_eq_true (h.at 0 rfl); have a1 : u7 < x1 := of_decide_eq_true (h.at 1 rfl); omega) (by have a0 : (iAdd .i64 r11.1 u7) < x1 := of_decide_eq_true (h.at 0 rfl); have a1 : u7 < x1 := of_decide_eq_true (h.at 1 rfl); omega) (by have a0 : (iAdd .i64 r11.1 u7) < x1 := of_decide_eq_true (h.at 0 rfl); have a1 : u7 < x1 := of_decide_eq_true (h.at 1 rfl); omega))
   (sn)),
   ll_cons (lo_mk1 ((x1 + 2 * u7).toNat + 1) [(.p (.int .i64 r11.1)), (.p (.int .i64 r11.2.1)), (.sl (List.map GKey.enc r11.2.2) false)] rfl (fun h hb => lp_sS_l11 x0 x1 r2 v5 u7 u8 u9 u10  hb0 h0 h1 (by have a0 : u7 < x1 := of_decide_eq_true (h.at 0 rfl); omega) (by have a0 : u7 < x1 := of_decide_eq_true (h.at 0 rfl); omega) (by have a0 : u7 < x1 := of_decide_eq_true (h.at 0 rfl); omega) ((x1 + 2 * u7).toNat + 1) (0) ((iMul .i64 2 u7)) (u10) (by have a0 : u7 < x1 := of_decide_eq_true (h.at 0 rfl); refine ⟨?_, ?_, ?_, ?_⟩ <;> (omega)) (by have a0 : u7 < x1 := of_decide_eq_true (h.at 0 rfl); omega)) rfl)
  (ll_nil)⟩
   (rn_cons rk_sS_l7 (c := (!(decide ((u7 : Int) < x1)))) rfl (fun hc0 => rn_exit rfl rfl) (fun hc0 => rn_cons rk_sS_l7 (c := (decide (((iAdd .i64 r11.1 u7) : Int) < x1))) rfl (fun hc1 => rn_go rfl (lp_sS_l7 x0 x1 r2 v5 hb0 h0 h1 n ((iMul .i64 u7 2)) (r11.1) (r11.2.1) (v14) (by have g0_0 : u7 < x1 := of_decide_eq_true (bn_f hc0); have g1_0 : (iAdd .i64 r11.1 u7) < x1 := of_decide_eq_true hc1; refine ⟨?_, ?_, ?_⟩ <;> (omega)) (by have g0_0 : u7 < x1 := of_decide_eq_true (bn_f hc0); have g1_0 : (iAdd .i64 r11.1 u7) < x1 := of_decide_eq_true hc1; omega))) (fun hc1 => rn_last (rn_go rfl (lp_sS_l7 x0 x1 r2 v5 hb0 h0 h1 n ((iMul .i64 u7 2)) (r11.1) (r11.2.1) (r11.2.2) (by have g0_0 : u7 < x1 := of_decide_eq_true (bn_f hc0); have g1_0 : ¬ (iAdd .i64 r11.1 u7) < x1 := of_decide_eq_false hc1; refine ⟨?_, ?_, ?_⟩ <;> (omega)) (by have g0_0 : u7 < x1 := of_decide_eq_true (bn_f hc0); have g1_0 : ¬ (iAdd .i64 r11.1 u7) < x1 := of_decide_eq_false hc1; omega))))))
theorem e_sS : sFnW Try.prog xBase iBase mdI (fcI kA 95 [1, 2, 4, 5, 6, 7, 11, 26, 31, 49] [(2, (.mk [1, 2] (.mk [(4, (.sc (.int .i64))), (5, (.sc (.int .i64))), (6, (.sc (.int .i64)))] [] [(2, 2)] 12) [(.normal, (.mk [] [] [(2, 2)] 12))])), (4, (.mk [1, 2, 4] (.mk [(5, (.sc (.int .i64))), (6, (.sc (.int .i64)))] [] [(2, 2)] 19) [(.normal, (.mk [(5, (.sc (.int .i64))), (6, (.sc (.int .i64)))] [] [(2, 2)] 19))])), (0, (.mk [1, 2, 4] (.mk [(5, (.sc (.int .i64))), (6, (.sc (.int .i64)))] [] [(2, 2)] 9) [(.normal, (.mk [(5, (.sc (.int .i64))), (6, (.sc (.int .i64)))] [] [(2, 2)] 9))]))]) 3 200 95 [zz7, zz60] 2 zz50 [(2, 2)] 4 = some ⟨[((.lb true), (.tup [(.tup []), (.sc .sl (.var 7 []))]))],
 [([], (.callw 124 [zz7, zz47, zz60] [(3, (.rows 1 [zz13])), (2, (.rowsT 2 (.var 4 [])))] 4 (.tup []) [(3, (.rows 1 [zz13])), (2, (.rowsT 2 (.var 5 [])))]))],
 [(.mk [] 2 3 [(.sc (.int .i64) (.li 0)), (.sc (.int .i64) (.li 20)), (.sc .sl (.var 0 []))] zz81 zz80 [] [3] []),
 (.mk [] 7 4 [(.sc (.int .i64) (.li 20)), zz47, zz48, (.sc .sl (.var 5 []))] zz43 zz53 zz20 [1] [])]⟩ := by kernel_rfl
theorem pw_sS (x0 : List GKey) (x1 : Int) (h0 : 0 ≤ x1) (h1 : x1 ≤ x0.length) : PWL Try.prog 95 [(.agg [(.fn (.func 64) [] [(.op 3 1 0 0)]), (.fn (.func 123) [] [(.os 2 2 0 (List.map GKey.enc x0).length), (.p (Cv.val (.at 1 24)))])]), (.p (.int .i64 x1))] [(3, .rows 1 [[(.os 2 2 0 (List.map GKey.enc x0).length)]]), (2, .rows 2 (List.map GKey.enc x0))] 4 (.tup []) [(3, .rows 1 [[(.os 2 2 0 (List.map GKey.enc x0).length)]]), (2, .rows 2 (List.map GKey.enc (sS x0 x1)))] := pw_bnd fun hb =>
 have hb0 : x0.length ≤ 4294967296 := by have := hb; simp only [bndL, AV.bnd, List.length_map] at this; omega
 let r2 : Int × Int × List GKey := sS_l2 x1 (x1.toNat + 21) 0 20 x0
 let w5 : List GKey := sI r2.2.2 r2.1 x1
 let v5 : List GKey := w5
 let r7 : List GKey := sS_l7 x1 (x1.toNat + 1) 20 r2.1 r2.2.1 v5
 have hp2_0 : r2.2.2.length = x0.length := stable_l2_len
 have hp2_1 : 0 ≤ r2.1 ∧ r2.1 ≤ x1 := stable_l2_bd h0 h1 hb0
 have hp5_0 : v5.length = r2.2.2.length := insertionSort_len
 mk_pw (ρ := [(.sl (List.map GKey.enc x0) false), (.p (.int .i64 x1)), (.p (.int .i64 r2.1)), (.p (.int .i64 r2.2.1)), (.sl (List.map GKey.enc r2.2.2) false), (.sl (List.map GKey.enc v5) false), undefA, (.sl (List.map GKey.enc r7) false)]) (cs := [(.sl (List.map GKey.enc (sS x0 x1)) false)]) hmix xBase_ok iBase_ok e_sS (fzc (fzs GKey.fzL _) (fzc rfl (fzc rfl (fzc rfl (fzc (fzs GKey.fzL _) (fzc (fzs GKey.fzL _) (fzc rfl (fzc (fzs GKey.fzL _) (fzn)))))))))
  (sc (fun h => pwL_sI r2.2.2 r2.1 x1 ((List.map GKey.enc x0).length) (by first | (rw [List.length_map]; done) | (rw [List.length_map]; omega)) (by omega) (by omega) (by omega))
  (sn))
  (ll_cons (lo_mk1 (x1.toNat + 21) [(.p (.int .i64 r2.1)), (.p (.int .i64 r2.2.1)), (.sl (List.map GKey.enc r2.2.2) false)] rfl (fun h hb => lp_sS_l2 x0 x1  hb0 h0 h1 (x1.toNat + 21) (0) (20) (x0) (by skip; refine ⟨?_, ?_, ?_, ?_⟩ <;> (omega)) (by skip; omega)) rfl)
  (ll_cons (lo_mk1 (x1.toNat + 1) [(.sl (List.map GKey.enc r7) false)] rfl (fun h hb => lp_sS_l7 x0 x1 r2 v5  hb0 h0 h1 (x1.toNat + 1) (20) (r2.1) (r2.2.1) (v5) (by skip; refine ⟨?_, ?_, ?_⟩ <;> (omega)) (by skip; omega)) rfl)
  (ll_nil)))
  rfl rfl (selL rfl) rfl
theorem pwL_sS (x0 : List GKey) (x1 : Int) (L0 : Nat) (hL0 : L0 = x0.length) (h0 : 0 ≤ x1) (h1 : x1 ≤ x0.length) : PWL Try.prog 95 [(.agg [(.fn (.func 64) [] [(.op 3 1 0 0)]), (.fn (.func 123) [] [(.os 2 2 0 L0), (.p (Cv.val (.at 1 24)))])]), (.p (.int .i64 x1))] [(3, .rows 1 [[(.os 2 2 0 L0)]]), (2, .rows 2 (List.map GKey.enc x0))] 4 (.tup []) [(3, .rows 1 [[(.os 2 2 0 L0)]]), (2, .rows 2 (List.map GKey.enc (sS x0 x1)))] := by
 have := pw_sS x0 x1 h0 h1
 simp only [List.length_map] at this
 subst hL0
 exact this
theorem e_key_Order : sFnI Try.prog xBase iBase mdI (fcI kA 20 [] []) 3 200 20 [.sc .sl (.var 0 [])] 1 = some ⟨[((.or zz42 zz52), (.sc .sl (.var 0 []))), ((.lb true), (.sc .sl (.var 3 [])))],
 [([], (.rok 2 (.var 0 []))),
 ([], (.len2 0 (.var 0 []))),
 ([], (.tm zz37)),
 ([(zz42, true)], (.tm zz37)),
 ([(zz52, true), (zz42, false)], (.tm zz37)),
 ([(zz52, false), (zz42, false)], (.tm zz37)),
 zz95,
 ([(zz42, false), (zz52, false)], (.sub 2 (.var 1 []) none (some (.rlen (.var 0 []))) (.var 3 [])))],
 []⟩ := by kernel_rfl
theorem pc_key_Order (x0 : List GKey) : PC Try.prog 20 [(.sl (List.map GKey.enc x0) false)] (.sl (List.map GKey.enc (key_Order x0)) false) := pc_bnd fun hb =>
 have hb0 : x0.length ≤ 4294967296 := by have := hb.1.1; simpa using this
 let w1 : List GKey := sS x0 (mLen GKey.enc x0)
 let v1 : List GKey := w1
 let v3 : List GKey := (v1.drop (0)).take (((mLen GKey.enc x0) : Int).toNat - 0)
 have hp1_0 : v1.length = x0.length := stable_len
 mk_pcXIL (ρ := [(.sl (List.map GKey.enc x0) false), (.sl (List.map GKey.enc v1) false), undefA, (.sl (List.map GKey.enc v3) false)]) hmix xBase_ok iBase_ok e_key_Order (fzc (fzs GKey.fzL _) (fzc (fzs GKey.fzL _) (fzc rfl (fzc (fzs GKey.fzL _) (fzn)))))
  (sc (fun _ => GKey.rok _)
  (sc (fun h => len2_side (f := GKey.enc) (y := x0) (by omega))
  (sc (fun h => decide_eq_true (p := (0 : Int) ≤ (mLen GKey.enc x0)) (by (simp only [lens, v3] <;> omega)))
  (sc (fun h => decide_eq_true (p := (0 : Int) ≤ (mLen GKey.enc x0)) (by have a0 : (mLen GKey.enc x0) = 0 := iEq_t.1 (h.at 0 rfl); simp only [lens] at a0; (simp only [lens, v3] <;> omega)))
  (sc (fun h => decide_eq_true (p := (0 : Int) ≤ (mLen GKey.enc x0)) (by have a0 : (mLen GKey.enc x0) = 1 := iEq_t.1 (h.at 0 rfl); have a1 : (mLen GKey.enc x0) ≠ 0 := iEq_f.1 (h.at 1 rfl); simp only [lens] at a0 a1; (simp only [lens, v3] <;> omega)))
  (sc (fun h => decide_eq_true (p := (0 : Int) ≤ (mLen GKey.enc x0)) (by have a0 : (mLen GKey.enc x0) ≠ 1 := iEq_f.1 (h.at 0 rfl); have a1 : (mLen GKey.enc x0) ≠ 0 := iEq_f.1 (h.at 1 rfl); simp only [lens] at a0 a1; (simp only [lens, v3] <;> omega)))
  (sc (fun h => pwL_sS x0 (mLen GKey.enc x0) ((List.map GKey.enc x0).length) (by first | (rw [List.length_map]; done) | (rw [List.length_map]; have a0 : (mLen GKey.enc x0) ≠ 1 := iEq_f.1 (h.at 0 rfl); have a1 : (mLen GKey.enc x0) ≠ 0 := iEq_f.1 (h.at 1 rfl); simp only [lens] at a0 a1; omega)) (by have a0 : (mLen GKey.enc x0) ≠ 1 := iEq_f.1 (h.at 0 rfl); have a1 : (mLen GKey.enc x0) ≠ 0 := iEq_f.1 (h.at 1 rfl); simp only [lens] at a0 a1; (simp only [lens, v3] <;> omega)) (by have a0 : (mLen GKey.enc x0) ≠ 1 := iEq_f.1 (h.at 0 rfl); have a1 : (mLen GKey.enc x0) ≠ 0 := iEq_f.1 (h.at 1 rfl); simp only [lens] at a0 a1; (simp only [lens, v3] <;> omega)))
  (sc (fun h => sub_hi (hi := (mLen GKey.enc x0)) (GKey.rok _) (by have a0 : (mLen GKey.enc x0) ≠ 0 := iEq_f.1 (h.at 0 rfl); have a1 : (mLen GKey.enc x0) ≠ 1 := iEq_f.1 (h.at 1 rfl); simp only [lens] at a0 a1; (simp only [lens, v3] <;> omega)) (by have a0 : (mLen GKey.enc x0) ≠ 0 := iEq_f.1 (h.at 0 rfl); have a1 : (mLen GKey.enc x0) ≠ 1 := iEq_f.1 (h.at 1 rfl); simp only [lens] at a0 a1; (simp only [lens, v3] <;> omega)))
  (sn)))))))))
  (ll_nil)
  rfl (selE (fun r => .sl (List.map GKey.enc r) false) rfl rfl (selL rfl))
theorem eo_key_Order : sFnO Try.prog xBase iBase mdI (fcI kA 20 [] []) 3 200 20 [.sc .sl (.var 0 [])] 1 [] 2 = some ⟨[((.or zz42 zz52), (.sc .sl (.var 0 []))), ((.lb true), (.sc .sl (.var 1 [])))],
 [([], (.rok 2 (.var 0 []))),
 ([], (.len2 0 (.var 0 []))),
 ([], (.tm zz37)),
 ([(zz42, true)], (.tm zz37)),
 ([(zz52, true), (zz42, false)], (.tm zz37)),
 ([(zz52, false), (zz42, false)], (.tm zz37)),
 zz95,
 ([(zz42, false), (zz52, false)], (.tm (.bin .eql (.int .i64) (.rlen (.var 0 [])) (.rlen (.var 1 [])))))],
 []⟩ := by kernel_rfl
theorem pco_key_Order_o (x0 : List GKey) : PCo Try.prog 20 [(.sl (List.map GKey.enc x0) false)] (.sl (List.map GKey.enc (key_Order_o x0)) false) [] 2 := pco_bnd fun hb =>
 have hb0 : x0.length ≤ 4294967296 := by have := hb.1.1; simpa using this
 let w1 : List GKey := sS x0 (mLen GKey.enc x0)
 let v1 : List GKey := w1
 let v3 : List GKey := (v1.drop (0)).take (((mLen GKey.enc x0) : Int).toNat - 0)
 have hp1_0 : v1.length = x0.length := stable_len
 mk_pco (ρ := [(.sl (List.map GKey.enc x0) false), (.sl (List.map GKey.enc v1) false), undefA, (.sl (List.map GKey.enc v3) false)]) hmix xBase_ok iBase_ok eo_key_Order (fzc (fzs GKey.fzL _) (fzc (fzs GKey.fzL _) (fzc rfl (fzc (fzs GKey.fzL _) (fzn)))))
  (sc (fun _ => GKey.rok _)
  (sc (fun h => len2_side (f := GKey.enc) (y := x0) (by omega))
  (sc (fun h => decide_eq_true (p := (0 : Int) ≤ (mLen GKey.enc x0)) (by (simp only [lens, v3] <;> omega)))
  (sc (fun h => decide_eq_true (p := (0 : Int) ≤ (mLen GKey.enc x0)) (by have a0 : (mLen GKey.enc x0) = 0 := iEq_t.1 (h.at 0 rfl); simp only [lens] at a0; (simp only [lens, v3] <;> omega)))
  (sc (fun h => decide_eq_true (p := (0 : Int) ≤ (mLen GKey.enc x0)) (by have a0 : (mLen GKey.enc x0) = 1 := iEq_t.1 (h.at 0 rfl); have a1 : (mLen GKey.enc x0) ≠ 0 := iEq_f.1 (h.at 1 rfl); simp only [lens] at a0 a1; (simp only [lens, v3] <;> omega)))
  (sc (fun h => decide_eq_true (p := (0 : Int) ≤ (mLen GKey.enc x0)) (by have a0 : (mLen GKey.enc x0) ≠ 1 := iEq_f.1 (h.at 0 rfl); have a1 : (mLen GKey.enc x0) ≠ 0 := iEq_f.1 (h.at 1 rfl); simp only [lens] at a0 a1; (simp only [lens, v3] <;> omega)))
  (sc (fun h => pwL_sS x0 (mLen GKey.enc x0) ((List.map GKey.enc x0).length) (by first | (rw [List.length_map]; done) | (rw [List.length_map]; have a0 : (mLen GKey.enc x0) ≠ 1 := iEq_f.1 (h.at 0 rfl); have a1 : (mLen GKey.enc x0) ≠ 0 := iEq_f.1 (h.at 1 rfl); simp only [lens] at a0 a1; omega)) (by have a0 : (mLen GKey.enc x0) ≠ 1 := iEq_f.1 (h.at 0 rfl); have a1 : (mLen GKey.enc x0) ≠ 0 := iEq_f.1 (h.at 1 rfl); simp only [lens] at a0 a1; (simp only [lens, v3] <;> omega)) (by have a0 : (mLen GKey.enc x0) ≠ 1 := iEq_f.1 (h.at 0 rfl); have a1 : (mLen GKey.enc x0) ≠ 0 := iEq_f.1 (h.at 1 rfl); simp only [lens] at a0 a1; (simp only [lens, v3] <;> omega)))
  (sc (fun h => iEq_t.2 (show ((mLen GKey.enc x0) : Int) = (mLen GKey.enc v1) from (by have a0 : (mLen GKey.enc x0) ≠ 0 := iEq_f.1 (h.at 0 rfl); have a1 : (mLen GKey.enc x0) ≠ 1 := iEq_f.1 (h.at 1 rfl); simp only [lens] at a0 a1; (simp only [lens, v3] <;> omega))))
  (sn)))))))))
  (ll_nil)
  rfl (selE (fun r => .sl (List.map GKey.enc r) false) rfl rfl (selL rfl))
theorem pco_key_Order (x0 : List GKey) : PCo Try.prog 20 [(.sl (List.map GKey.enc x0) false)] (.sl (List.map GKey.enc (key_Order x0)) false) [] 2 := pco_bnd fun hb =>
 have hb0 : x0.length ≤ 4294967296 := by have := hb.1.1; simpa using this
 key_Order_o_eq x0 hb0 ▸ pco_key_Order_o x0
def rk_ref01_Tens_l2 (r : Int × List UInt8) : Nat × List AV := (0, [(.p (.int .i64 r.1)), (.str r.2)])
theorem lp_ref01_Tens_l2 (x0 : Int) (v1 : List UInt8) (h0 : 0 ≤ x0) (h1 : x0 ≤ 1000000) : ∀ (n : Nat) (u2 : Int) (u3 : List UInt8), (0 ≤ u2 ∧ u3.length ≤ 128 * (1000000 - u2) ∧ u2 ≤ x0) → u2.toNat < n → RunN (fun σ => SidesOk Try.prog σ [(zz61, (.tm (.bin .leq (.int .i64) (.li 0) zz19))),
  (zz61, (.tm (.bin .lss (.int .i64) zz19 (.li 128)))),
  zz120] ∧ LoL Try.prog [] σ)
  zz71
  [(.p (.int .i64 x0)), (.str v1)] 2 n [(.p (.int .i64 u2)), (.str u3)] (rk_ref01_Tens_l2 (ref01_Tens_l2 n u2 u3)).1 (rk_ref01_Tens_l2 (ref01_Tens_l2 n u2 u3)).2
 | 0, u2, u3, hi, hm => absurd hm (Nat.not_lt_zero _)
 | n + 1, u2, u3, hi, hm =>
  rn_mk (r := rk_ref01_Tens_l2 (ref01_Tens_l2 (n + 1) u2 u3)) [] [(.p (.int .i64 x0)), (.str v1), (.p (.int .i64 u2)), (.str u3)] rfl rfl (fzc rfl (fzc rfl (fzc rfl (fzc rfl (fzn))))) ⟨SidesC.ok (sc (fun h => decide_eq_true (p := (0 : Int) ≤ (IntKind.wrap .i32 (iAdd .i64 48 (iRem .i64 u2 10)))) (by have a0 : u2 ≥ 10 := of_decide_eq_true (h.at 0 rfl); have a1 : ¬ x0 < 0 := of_decide_eq_false (h.at 1 rfl); ((try have ia0 : (iRem .i64 u2 10) = u2 % 10 := iRemC (by first | omega | (simp only [lens]; omega))); (try have ia1 : (iAdd .i64 48 (iRem .i64 u2 10)) = 48 + (iRem .i64 u2 10) := iAddC (by first | omega | (simp only [lens]; omega)) (by omega)); (try have ia2 : (IntKind.wrap .i32 (iAdd .i64 48 (iRem .i64 u2 10))) = (iAdd .i64 48 (iRem .i64 u2 10)) := w32C (a := (iAdd .i64 48 (iRem .i64 u2 10))) (by first | omega | (simp only [lens]; omega)) (by omega)); omega)))
   (sc (fun h => decide_eq_true (p := ((IntKind.wrap .i32 (iAdd .i64 48 (iRem .i64 u2 10))) : Int) < 128) (by have a0 : u2 ≥ 10 := of_decide_eq_true (h.at 0 rfl); have a1 : ¬ x0 < 0 := of_decide_eq_false (h.at 1 rfl); ((try have ia0 : (iRem .i64 u2 10) = u2 % 10 := iRemC (by first | omega | (simp only [lens]; omega))); (try have ia1 : (iAdd .i64 48 (iRem .i64 u2 10)) = 48 + (iRem .i64 u2 10) := iAddC (by first | omega | (simp only [lens]; omega)) (by omega)); (try have ia2 : (IntKind.wrap .i32 (iAdd .i64 48 (iRem .i64 u2 10))) = (iAdd .i64 48 (iRem .i64 u2 10)) := w32C (a := (iAdd .i64 48 (iRem .i64 u2 10))) (by first | omega | (simp only [lens]; omega)) (by omega)); omega)))
   (sc (fun h => (show ((chrB (IntKind.wrap .i32 (iAdd .i64 48 (iRem .i64 u2 10))))).length + (u3).length ≤ 4294967296 from (by have a0 : u2 ≥ 10 := of_decide_eq_true (h.at 0 rfl); have a1 : ¬ x0 < 0 := of_decide_eq_false (h.at 1 rfl); ((try have ia0 : (iRem .i64 u2 10) = u2 % 10 := iRemC (by first | omega | (simp only [lens]; omega))); (try have ia1 : (iAdd .i64 48 (iRem .i64 u2 10)) = 48 + (iRem .i64 u2 10) := iAddC (by first | omega | (simp only [lens]; omega)) (by omega)); (try have ia2 : (IntKind.wrap .i32 (iAdd .i64 48 (iRem .i64 u2 10))) = (iAdd .i64 48 (iRem .i64 u2 10)) := w32C (a := (iAdd .i64 48 (iRem .i64 u2 10))) (by first | omega | (simp only [lens]; omega)) (by omega)); (try have ia3 : (iAdd .i64 (IntKind.wrap .i32 (iAdd .i64 48 (iRem .i64 u2 10))) 1) = (IntKind.wrap .i32 (iAdd .i64 48 (iRem .i64 u2 10))) + 1 := iAddC (by first | omega | (simp only [lens]; omega)) (by omega)); have ia4 := chrB_len (IntKind.wrap .i32 (iAdd .i64 48 (iRem .i64 u2 10))); omega))))
   (sn)))),
   ll_nil⟩
   (rn_cons rk_ref01_Tens_l2 (c := (!(decide ((u2 : Int) ≥ 10)))) rfl (fun hc0 => rn_exit rfl rfl) (fun hc0 => rn_last (rn_go rfl (lp_ref01_Tens_l2 x0 v1 h0 h1 n ((iQuo .i64 u2 10)) (((chrB (IntKind.wrap .i32 (iAdd .i64 48 (iRem .i64 u2 10)))) ++ u3)) (by have g0_0 : u2 ≥ 10 := of_decide_eq_true (bn_f hc0); (try have ia0 : (iQuo .i64 u2 10) = u2 / 10 := iQuoC (by first | omega | (simp only [lens]; omega)) (by omega) (by decide)); (try have ia1 : (iRem .i64 u2 10) = u2 % 10 := iRemC (by first | omega | (simp only [lens]; omega))); (try have ia2 : (iAdd .i64 48 (iRem .i64 u2 10)) = 48 + (iRem .i64 u2 10) := iAddC (by first | omega | (simp only [lens]; omega)) (by omega)); (try have ia3 : (IntKind.wrap .i32 (iAdd .i64 48 (iRem .i64 u2 10))) = (iAdd .i64 48 (iRem .i64 u2 10)) := w32C (a := (iAdd .i64 48 (iRem .i64 u2 10))) (by first | omega | (simp only [lens]; omega)) (by omega)); (try have ia4 : (iAdd .i64 (IntKind.wrap .i32 (iAdd .i64 48 (iRem .i64 u2 10))) 1) = (IntKind.wrap .i32 (iAdd .i64 48 (iRem .i64 u2 10))) + 1 := iAddC (by first | omega | (simp only [lens]; omega)) (by omega)); have ia5 := chrB_len (IntKind.wrap .i32 (iAdd .i64 48 (iRem .i64 u2 10))); refine ⟨?_, ?_, ?_⟩ <;> ((first | omega | (simp only [lens] <;> omega) | (simp only [lens] at * <;> omega) | (simp [lens, *] <;> omega)))) (by have g0_0 : u2 ≥ 10 := of_decide_eq_true (bn_f hc0); (try have ia0 : (iQuo .i64 u2 10) = u2 / 10 := iQuoC (by first | omega | (simp only [lens]; omega)) (by omega) (by decide)); (try have ia1 : (iRem .i64 u2 10) = u2 % 10 := iRemC (by first | omega | (simp only [lens]; omega))); (try have ia2 : (iAdd .i64 48 (iRem .i64 u2 10)) = 48 + (iRem .i64 u2 10) := iAddC (by first | omega | (simp only [lens]; omega)) (by omega)); (try have ia3 : (IntKind.wrap .i32 (iAdd .i64 48 (iRem .i64 u2 10))) = (iAdd .i64 48 (iRem .i64 u2 10)) := w32C (a := (iAdd .i64 48 (iRem .i64 u2 10))) (by first | omega | (simp only [lens]; omega)) (by omega)); (try have ia4 : (iAdd .i64 (IntKind.wrap .i32 (iAdd .i64 48 (iRem .i64 u2 10))) 1) = (IntKind.wrap .i32 (iAdd .i64 48 (iRem .i64 u2 10))) + 1 := iAddC (by first | omega | (simp only [lens]; omega)) (by omega)); have ia5 := chrB_len (IntKind.wrap .i32 (iAdd .i64 48 (iRem .i64 u2 10))); omega)))))
theorem e_ref01_Tens : sFnI Try.prog xBase iBase mdI (fcI kA 126 [3, 0] [(0, (.mk [2] (.mk [(0, (.sc (.int .i64))), (3, (.sc .str))] [] [] 4) [(.normal, (.mk [(0, (.sc (.int .i64))), (3, (.sc .str))] [] [] 4))]))]) 3 200 126 [.sc (.int .i64) (.var 0 [])] 1 = some ⟨[(zz30, (.sc .str (.bin .add .str (.ls [45]) (.var 1 [])))), ((.lb true), (.sc .str (.bin .add .str (.ssub zz8 zz70 (.bin .add (.int .i64) zz70 (.li 1))) (.var 3 []))))],
 [([(zz30, true)], (.call 126 [(.sc (.int .i64) (.neg (.int .i64) (.var 0 [])))] (.sc .str (.var 1 [])))),
 ([(zz30, true)], (.cat (.ls [45]) (.var 1 []))),
 ([(zz30, false)], (.tm (.bin .leq (.int .i64) (.li 0) zz70))),
 ([(zz30, false)], (.tm (.bin .lss (.int .i64) zz70 (.li 128)))),
 ([(zz30, false)], (.cat (.ssub zz8 zz70 (.bin .add (.int .i64) zz70 (.li 1))) (.var 3 [])))],
 [(.mk [(zz30, false)] 2 2 [(.sc (.int .i64) (.var 0 [])), (.sc .str (.ls []))] zz71 [(zz61, (.tm (.bin .leq (.int .i64) (.li 0) zz19))), (zz61, (.tm (.bin .lss (.int .i64) zz19 (.li 128)))), zz120] [] [2] [])]⟩ := by kernel_rfl
theorem pc_ref01_Tens (x0 : Int) (h0 : 0 ≤ x0) (h1 : x0 ≤ 1000000) : PC Try.prog 126 [(.p (.int .i64 x0))] (.str (ref01_Tens x0)) := pc_bnd fun hb =>
 let v1 : List UInt8 := default
 let r2 : Int × List UInt8 := ref01_Tens_l2 (x0.toNat + 1) x0 []
 have hp2_0 : 0 ≤ r2.1 ∧ r2.1 < 10 ∧ r2.2.length ≤ 128000000 := ref01_Tens_l2_bd h0 h1
 mk_pcXIL (ρ := [(.p (.int .i64 x0)), (.str v1), (.p (.int .i64 r2.1)), (.str r2.2)]) hmix xBase_ok iBase_ok e_ref01_Tens (fzc rfl (fzc rfl (fzc rfl (fzc rfl (fzn)))))
  (sc (fun h => (by have a0 : x0 < 0 := of_decide_eq_true (h.at 0 rfl); omega))
  (sc (fun h => (show ([45]).length + (v1).length ≤ 4294967296 from (by have a0 : x0 < 0 := of_decide_eq_true (h.at 0 rfl); omega)))
  (sc (fun h => decide_eq_true (p := (0 : Int) ≤ (IntKind.wrap .i32 (iAdd .i64 48 r2.1))) (by have a0 : ¬ x0 < 0 := of_decide_eq_false (h.at 0 rfl); ((try have ia0 : (iAdd .i64 48 r2.1) = 48 + r2.1 := iAddC (by first | omega | (simp only [lens]; omega)) (by omega)); (try have ia1 : (IntKind.wrap .i32 (iAdd .i64 48 r2.1)) = (iAdd .i64 48 r2.1) := w32C (a := (iAdd .i64 48 r2.1)) (by first | omega | (simp only [lens]; omega)) (by omega)); omega)))
  (sc (fun h => decide_eq_true (p := ((IntKind.wrap .i32 (iAdd .i64 48 r2.1)) : Int) < 128) (by have a0 : ¬ x0 < 0 := of_decide_eq_false (h.at 0 rfl); ((try have ia0 : (iAdd .i64 48 r2.1) = 48 + r2.1 := iAddC (by first | omega | (simp only [lens]; omega)) (by omega)); (try have ia1 : (IntKind.wrap .i32 (iAdd .i64 48 r2.1)) = (iAdd .i64 48 r2.1) := w32C (a := (iAdd .i64 48 r2.1)) (by first | omega | (simp only [lens]; omega)) (by omega)); omega)))
  (sc (fun h => (show ((chrB (IntKind.wrap .i32 (iAdd .i64 48 r2.1)))).length + (r2.2).length ≤ 4294967296 from (by have a0 : ¬ x0 < 0 := of_decide_eq_false (h.at 0 rfl); ((try have ia0 : (iAdd .i64 48 r2.1) = 48 + r2.1 := iAddC (by first | omega | (simp only [lens]; omega)) (by omega)); (try have ia1 : (IntKind.wrap .i32 (iAdd .i64 48 r2.1)) = (iAdd .i64 48 r2.1) := w32C (a := (iAdd .i64 48 r2.1)) (by first | omega | (simp only [lens]; omega)) (by omega)); (try have ia2 : (iAdd .i64 (IntKind.wrap .i32 (iAdd .i64 48 r2.1)) 1) = (IntKind.wrap .i32 (iAdd .i64 48 r2.1)) + 1 := iAddC (by first | omega | (simp only [lens]; omega)) (by omega)); have ia3 := chrB_len (IntKind.wrap .i32 (iAdd .i64 48 r2.1)); omega))))
  (sn))))))
  (ll_cons (lo_mk1 (x0.toNat + 1) [(.p (.int .i64 r2.1)), (.str r2.2)] rfl (fun h hb => lp_ref01_Tens_l2 x0 v1  h0 h1 (x0.toNat + 1) (x0) ([]) (by have a0 : ¬ x0 < 0 := of_decide_eq_false (h.at 0 rfl); refine ⟨?_, ?_, ?_⟩ <;> ((simp [lens, *] <;> omega))) (by have a0 : ¬ x0 < 0 := of_decide_eq_false (h.at 0 rfl); omega)) rfl)
  (ll_nil))
  rfl (selE (fun r => .str r) rfl rfl (selL rfl))
theorem e_ref07_Tens : sFnI Try.prog xBase iBase mdI (fcI kA 97 [] []) 3 200 97 [.sc (.int .i64) (.var 0 [])] 1 = some ⟨[((.and zz30 zz75), (.sc .str (.bin .add .str (.var 1 []) (.var 2 [])))), ((.lb true), (.sc .str (.var 3 [])))],
 [([(zz30, true), (zz75, true)], (.call 97 [(.sc (.int .i64) (.bin .quo (.int .i64) (.var 0 []) (.li 10)))] (.sc .str (.var 1 [])))),
 ([(zz30, true), (zz75, true)], (.call 97 [(.sc (.int .i64) (.neg (.int .i64) (.bin .rem (.int .i64) (.var 0 []) (.li 10))))] (.sc .str (.var 2 [])))),
 ([(zz30, true), (zz75, true)], (.cat (.var 1 []) (.var 2 []))),
 ([((.and zz30 zz75), false)], (.call 126 [(.sc (.int .i64) (.var 0 []))] (.sc .str (.var 3 []))))],
 []⟩ := by kernel_rfl
theorem pc_ref07_Tens (x0 : Int) (h0 : 0 ≤ x0) (h1 : x0 ≤ 1000000) : PC Try.prog 97 [(.p (.int .i64 x0))] (.str (ref07_Tens x0)) := pc_bnd fun hb =>
 let v1 : List UInt8 := default
 let v2 : List UInt8 := default
 let v3 : List UInt8 := ref01_Tens x0
 mk_pcXIL (ρ := [(.p (.int .i64 x0)), (.str v1), (.str v2), (.str v3)]) hmix xBase_ok iBase_ok e_ref07_Tens (fzc rfl (fzc rfl (fzc rfl (fzc rfl (fzn)))))
  (sc (fun h => (by have a0 : x0 < 0 := of_decide_eq_true (h.at 0 rfl); have a1 : (iSub .i64 0 x0) < 0 := of_decide_eq_true (h.at 1 rfl); ((try have ia0 : (iQuo .i64 x0 10) = x0 / 10 := iQuoC (by first | omega | (simp only [lens]; omega)) (by omega) (by decide)); omega)))
  (sc (fun h => (by have a0 : x0 < 0 := of_decide_eq_true (h.at 0 rfl); have a1 : (iSub .i64 0 x0) < 0 := of_decide_eq_true (h.at 1 rfl); ((try have ia0 : (iRem .i64 x0 10) = x0 % 10 := iRemC (by first | omega | (simp only [lens]; omega))); omega)))
  (sc (fun h => (show (v1).length + (v2).length ≤ 4294967296 from (by have a0 : x0 < 0 := of_decide_eq_true (h.at 0 rfl); have a1 : (iSub .i64 0 x0) < 0 := of_decide_eq_true (h.at 1 rfl); omega)))
  (sc (fun h => pc_ref01_Tens (x0) (by omega) (by omega))
  (sn)))))
  (ll_nil)
  rfl (selE (fun r => .str r) rfl rfl (selL rfl))
def rk_ref08_Index_l1 (r : Bool × Int × Bool × Int × Bool) : Nat × List AV := rk2 r.1 [(.p (.int .i64 r.2.1)), (.p (.bool r.2.2.1))] [(.p (.int .i64 r.2.2.2.1)), (.p (.bool r.2.2.2.2))]
theorem lp_ref08_Index_l1 (x0 : GKey) : ∀ (n : Nat) (u1 : Int) (u2 : Bool) (u3 : Int), (0 ≤ u3) → (1024 - u3).toNat < n → RunN (fun σ => SidesOk Try.prog σ zz105 ∧ LoL Try.prog [] σ)
  zz77
  [(GKey.av x0)] 3 n [(.p (.int .i64 u1)), (.p (.bool u2)), (.p (.int .i64 u3))] (rk_ref08_Index_l1 (ref08_Index_l1 x0 n u1 u2 u3)).1 (rk_ref08_Index_l1 (ref08_Index_l1 x0 n u1 u2 u3)).2
 | 0, u1, u2, u3, hi, hm => absurd hm (Nat.not_lt_zero _)
 | n + 1, u1, u2, u3, hi, hm =>
  let v4 : List UInt8 := ref07_Tens u3
  rn_mk (r := rk_ref08_Index_l1 (ref08_Index_l1 x0 (n + 1) u1 u2 u3)) [(.str v4)] [(GKey.av x0), (.p (.int .i64 u1)), (.p (.bool u2)), (.p (.int .i64 u3)), (.str v4)] rfl rfl (fzc (GKey.fz _) (fzc rfl (fzc rfl (fzc rfl (fzc rfl (fzn)))))) ⟨SidesC.ok (sc (fun h => pc_ref07_Tens (u3) (by have a0 : u3 < 1024 := of_decide_eq_true (h.at 0 rfl); have a1 : ¬ x0.Sym > 0 := of_decide_eq_false (h.at 1 rfl); have a2 : ¬ (sLen x0.Str) > 4 := of_decide_eq_false (h.at 2 rfl); omega) (by have a0 : u3 < 1024 := of_decide_eq_true (h.at 0 rfl); have a1 : ¬ x0.Sym > 0 := of_decide_eq_false (h.at 1 rfl); have a2 : ¬ (sLen x0.Str) > 4 := of_decide_eq_false (h.at 2 rfl); omega))
   (sn)),
   ll_nil⟩
   (rn_cons rk_ref08_Index_l1 (c := (!(decide ((u3 : Int) < 1024)))) rfl (fun hc0 => rn_exit rfl rfl) (fun hc0 => rn_cons rk_ref08_Index_l1 (c := (sEq v4 x0.Str)) rfl (fun hc1 => rn_exit rfl rfl) (fun hc1 => rn_last (rn_go rfl (lp_ref08_Index_l1 x0  n (u1) (u2) ((iAdd .i64 u3 1)) (by have g0_0 : u3 < 1024 := of_decide_eq_true (bn_f hc0); (try have ia0 : (iAdd .i64 u3 1) = u3 + 1 := iAddC (by first | omega | (simp only [lens]; omega)) (by omega)); (omega)) (by have g0_0 : u3 < 1024 := of_decide_eq_true (bn_f hc0); (try have ia0 : (iAdd .i64 u3 1) = u3 + 1 := iAddC (by first | omega | (simp only [lens]; omega)) (by omega)); omega))))))
theorem e_ref08_Index : sFnI Try.prog xBase iBase mdI (fcI kA 67 [4, 2, 3] [(0, (.mk [1] (.mk [(2, (.sc (.int .i64))), (3, (.sc .bool)), (4, (.sc (.int .i64)))] [] [] 13) [(.normal, (.mk [(2, (.sc (.int .i64))), (3, (.sc .bool))] [] [] 13)), (.ret, (.mk [(2, (.sc (.int .i64))), (3, (.sc .bool))] [] [] 13))]))]) 3 200 67 [.agg (cellsV 0 [] 0 GKey.kds)] 1 = some ⟨[((.or zz41 zz35), (.tup zz98)), ((.not (.bin .eql (.int .i64) (.var 1 []) (.li 0))), (.tup [(.sc (.int .i64) (.var 4 [])), (.sc .bool (.var 5 []))])), ((.lb true), (.tup zz98))],
 [],
 [(.mk [(zz41, false), (zz35, false)] 1 3 [(.sc (.int .i64) (.li 0)), (.sc .bool (.lb false)), (.sc (.int .i64) (.li 0))] zz77 zz105 [] [2, 2] [])]⟩ := by kernel_rfl
theorem pc_ref08_Index (x0 : GKey) : PC Try.prog 67 [(GKey.av x0)] (eR_ii64_bool (ref08_Index x0)) := pc_bnd fun hb =>
 let r1 : Bool × Int × Bool × Int × Bool := ref08_Index_l1 x0 ((1024 : Int).toNat + 1) 0 false 0
 mk_pcXIL (ρ := [(GKey.av x0), (.p (.int .i64 (selB r1.1))), (.p (.int .i64 r1.2.1)), (.p (.bool r1.2.2.1)), (.p (.int .i64 r1.2.2.2.1)), (.p (.bool r1.2.2.2.2))]) hmix xBase_ok iBase_ok e_ref08_Index (fzc (GKey.fz _) (fzc rfl (fzc rfl (fzc rfl (fzc rfl (fzc rfl (fzn)))))))
  (sn)
  (ll_cons (lo_mk2 ((1024 : Int).toNat + 1) r1.1 [(.p (.int .i64 r1.2.1)), (.p (.bool r1.2.2.1))] [(.p (.int .i64 r1.2.2.2.1)), (.p (.bool r1.2.2.2.2))] rfl (fun h hb => lp_ref08_Index_l1 x0   ((1024 : Int).toNat + 1) (0) (false) (0) (by have a0 : ¬ x0.Sym > 0 := of_decide_eq_false (h.at 0 rfl); have a1 : ¬ (sLen x0.Str) > 4 := of_decide_eq_false (h.at 1 rfl); (omega)) (by have a0 : ¬ x0.Sym > 0 := of_decide_eq_false (h.at 0 rfl); have a1 : ¬ (sLen x0.Str) > 4 := of_decide_eq_false (h.at 1 rfl); omega)) rfl rfl rfl)
  (ll_nil))
  rfl (selE eR_ii64_bool rfl rfl (selE eR_ii64_bool rfl rfl (selL rfl)))
def rk_ref08_Order_l6 (r : Int) : Nat × List AV := (0, [(.p (.int .i64 r))])
theorem lp_ref08_Order_l6 (x0 : List GKey) (u1 : List GKey) (u2 : List Int) (u3 : Int) (v4 : GKey) (v5 : Int × Bool) (hl0 : x0.length ≤ 4294967296) (hl1 : u1.length ≤ 4294967296) (hl2 : u2.length ≤ 4294967296) (h0 : x0.length ≤ 1048576) (q0 : u1.length = u2.length) (q1 : u1.length ≤ 4294967296) : ∀ (n : Nat) (u6 : Int), (0 ≤ u6 ∧ u6 ≤ u1.length) → u6.toNat < n → RunN (fun σ => SidesOk Try.prog σ [(zz91, (.tm (.bin .leq (.int .i64) (.li 0) zz108))),
  (zz91, (.tm (.bin .lss (.int .i64) zz108 (.rlen (.var 2 []))))),
  (zz91, (.rd (false, 1) (.var 2 []) zz108 0 (.sc (.int .i64) (.var 7 [0]))))] ∧ LoL Try.prog [] σ)
  [((.not (.and (.bin .gtr (.int .i64) (.var 6 []) (.li 0)) (.bin .gtr (.int .i64) (.var 7 [0]) (.var 5 [0])))), 1, [(.sc (.int .i64) (.var 6 []))]), ((.lb true), 0, [(.sc (.int .i64) zz108)])]
  [(.sl (List.map GKey.enc x0) false), (.sl (List.map GKey.enc u1) false), (.sl (List.map rowI u2) false), (.p (.int .i64 u3)), (GKey.av v4), (eR_ii64_bool v5)] 1 n [(.p (.int .i64 u6))] (rk_ref08_Order_l6 (ref08_Order_l6 u2 v5 n u6)).1 (rk_ref08_Order_l6 (ref08_Order_l6 u2 v5 n u6)).2
 | 0, u6, hi, hm => absurd hm (Nat.not_lt_zero _)
 | n + 1, u6, hi, hm =>
  let v7 : Int := u2.getD ((iSub .i64 u6 1) : Int).toNat default
  rn_mk (r := rk_ref08_Order_l6 (ref08_Order_l6 u2 v5 (n + 1) u6)) [(.agg (rowI v7))] [(.sl (List.map GKey.enc x0) false), (.sl (List.map GKey.enc u1) false), (.sl (List.map rowI u2) false), (.p (.int .i64 u3)), (GKey.av v4), (eR_ii64_bool v5), (.p (.int .i64 u6)), (.agg (rowI v7))] rfl rfl (fzc (fzs GKey.fzL _) (fzc (fzs GKey.fzL _) (fzc (fzs rowI_fz _) (fzc rfl (fzc (GKey.fz _) (fzc (show (eR_ii64_bool v5).fz = true from (fzc rfl (fzc rfl (fzn)) : fzL _ = true)) (fzc rfl (fzc (rowI_fz _) (fzn))))))))) ⟨SidesC.ok (sc (fun h => decide_eq_true (p := (0 : Int) ≤ (iSub .i64 u6 1)) (by have a0 : u6 > 0 := of_decide_eq_true (h.at 0 rfl); have a2 : u3 < (mLen GKey.enc x0) := of_decide_eq_true (h.at 2 rfl); simp only [lens] at a2; ((try have ia0 : (iSub .i64 u6 1) = u6 - 1 := iSubC (by first | omega | (simp only [lens]; omega)) (by omega)); omega)))
   (sc (fun h => decide_eq_true (p := ((iSub .i64 u6 1) : Int) < (mLen rowI u2)) (by have a0 : u6 > 0 := of_decide_eq_true (h.at 0 rfl); have a2 : u3 < (mLen GKey.enc x0) := of_decide_eq_true (h.at 2 rfl); simp only [lens] at a2; ((try have ia0 : (iSub .i64 u6 1) = u6 - 1 := iSubC (by first | omega | (simp only [lens]; omega)) (by omega)); (simp only [lens] <;> omega))))
   (sc (fun h => rd_side (f := rowI) (l := u2) (i := (iSub .i64 u6 1)) (n := 1) (by have a0 : u6 > 0 := of_decide_eq_true (h.at 0 rfl); have a2 : u3 < (mLen GKey.enc x0) := of_decide_eq_true (h.at 2 rfl); simp only [lens] at a2; ((try have ia0 : (iSub .i64 u6 1) = u6 - 1 := iSubC (by first | omega | (simp only [lens]; omega)) (by omega)); omega)) (by have a0 : u6 > 0 := of_decide_eq_true (h.at 0 rfl); have a2 : u3 < (mLen GKey.enc x0) := of_decide_eq_true (h.at 2 rfl); simp only [lens] at a2; ((try have ia0 : (iSub .i64 u6 1) = u6 - 1 := iSubC (by first | omega | (simp only [lens]; omega)) (by omega)); omega)) (fun _ => rfl) (by first | exact ⟨Nat.le_of_ble_eq_true rfl, rfl⟩ | exact rfl))
   (sn)))),
   ll_nil⟩
   (rn_cons rk_ref08_Order_l6 (c := (!((decide ((u6 : Int) > 0)) && (decide ((v7 : Int) > v5.1))))) rfl (fun hc0 => rn_exit rfl rfl) (fun hc0 => rn_last (rn_go rfl (lp_ref08_Order_l6 x0 u1 u2 u3 v4 v5 hl0 hl1 hl2 h0 q0 q1 n ((iSub .i64 u6 1)) (by have g0_0 : u6 > 0 := of_decide_eq_true (q_and1 (bn_f hc0)); have g0_1 : v7 > v5.1 := of_decide_eq_true (q_and2 (bn_f hc0)); (try have ia0 : (iSub .i64 u6 1) = u6 - 1 := iSubC (by first | omega | (simp only [lens]; omega)) (by omega)); refine ⟨?_, ?_⟩ <;> (omega)) (by have g0_0 : u6 > 0 := of_decide_eq_true (q_and1 (bn_f hc0)); have g0_1 : v7 > v5.1 := of_decide_eq_true (q_and2 (bn_f hc0)); (try have ia0 : (iSub .i64 u6 1) = u6 - 1 := iSubC (by first | omega | (simp only [lens]; omega)) (by omega)); omega)))))
def rk_ref08_Order_l9 (r : Int × List GKey × List Int) : Nat × List AV := (0, [(.p (.int .i64 r.1)), (.sl (List.map GKey.enc r.2.1) false), (.sl (List.map rowI r.2.2) false)])
theorem lp_ref08_Order_l9 (x0 : List GKey) (u1 : List GKey) (u2 : List Int) (u3 : Int) (v4 : GKey) (v5 : Int × Bool) (r6 : Int) (v7 : List GKey) (v8 : List Int) (hl0 : x0.length ≤ 4294967296) (hl1 : v7.length ≤ 4294967296) (hl2 : v8.length ≤ 4294967296) (h0 : x0.length ≤ 1048576) (q0 : u1.length = u2.length) (q1 : u1.length ≤ 4294967296) (q2 : 0 ≤ r6) (q3 : v7.length = u1.length + 1) (q4 : v8.length = u2.length + 1) : ∀ (n : Nat) (u9 : Int) (u10 : List GKey) (u11 : List Int), (0 ≤ u9 ∧ u9 ≤ u1.length ∧ u10.length = u1.length + 1 ∧ u11.length = u2.length + 1) → (u9).toNat < n → RunN (fun σ => SidesOk Try.prog σ [(zz3, (.tm (.bin .leq (.int .i64) (.li 0) zz74))),
  (zz3, (.tm (.bin .lss (.int .i64) zz74 (.rlen (.var 7 []))))),
  (zz3, (.rd (true, 2) (.var 10 []) zz74 0 (.agg zz27))),
  (zz3, (.tm (.bin .leq (.int .i64) (.li 0) (.var 9 [])))),
  (zz3, (.tm (.bin .lss (.int .i64) (.var 9 []) (.rlen (.var 7 []))))),
  (zz3, (.st (.var 10 []) (.var 9 []) 0 zz27 (.var 13 []))),
  (zz3, (.tm (.bin .leq (.int .i64) (.li 0) zz74))),
  (zz3, (.tm (.bin .lss (.int .i64) zz74 (.rlen (.var 8 []))))),
  (zz3, (.rd (false, 1) (.var 11 []) zz74 0 zz146)),
  (zz3, (.tm (.bin .leq (.int .i64) (.li 0) (.var 9 [])))),
  (zz3, (.tm (.bin .lss (.int .i64) (.var 9 []) (.rlen (.var 8 []))))),
  (zz3, (.st (.var 11 []) (.var 9 []) 0 [zz146] (.var 15 [])))] ∧ LoL Try.prog [] σ)
  [((.not (.bin .gtr (.int .i64) (.var 9 []) (.var 6 []))), 1, [(.sc (.int .i64) (.var 9 [])), (.sc .sl (.var 10 [])), (.sc .sl (.var 11 []))]), ((.lb true), 0, [(.sc (.int .i64) zz74), (.sc .sl (.var 13 [])), (.sc .sl (.var 15 []))])]
  [(.sl (List.map GKey.enc x0) false), (.sl (List.map GKey.enc u1) false), (.sl (List.map rowI u2) false), (.p (.int .i64 u3)), (GKey.av v4), (eR_ii64_bool v5), (.p (.int .i64 r6)), (.sl (List.map GKey.enc v7) false), (.sl (List.map rowI v8) false)] 3 n [(.p (.int .i64 u9)), (.sl (List.map GKey.enc u10) false), (.sl (List.map rowI u11) false)] (rk_ref08_Order_l9 (ref08_Order_l9 r6 n u9 u10 u11)).1 (rk_ref08_Order_l9 (ref08_Order_l9 r6 n u9 u10 u11)).2
 | 0, u9, u10, u11, hi, hm => absurd hm (Nat.not_lt_zero _)
 | n + 1, u9, u10, u11, hi, hm =>
  let v12 : GKey := u10.getD ((iSub .i64 u9 1) : Int).toNat default
  let v13 : List GKey := u10.set (u9 : Int).toNat v12
  let v14 : Int := u11.getD ((iSub .i64 u9 1) : Int).toNat default
  let v15 : List Int := u11.set (u9 : Int).toNat v14
  rn_mk (r := rk_ref08_Order_l9 (ref08_Order_l9 r6 (n + 1) u9 u10 u11)) [(GKey.av v12), (.sl (List.map GKey.enc v13) false), (.agg (rowI v14)), (.sl (List.map rowI v15) false)] [(.sl (List.map GKey.enc x0) false), (.sl (List.map GKey.enc u1) false), (.sl (List.map rowI u2) false), (.p (.int .i64 u3)), (GKey.av v4), (eR_ii64_bool v5), (.p (.int .i64 r6)), (.sl (List.map GKey.enc v7) false), (.sl (List.map rowI v8) false), (.p (.int .i64 u9)), (.sl (List.map GKey.enc u10) false), (.sl (List.map rowI u11) false), (GKey.av v12), (.sl (List.map GKey.enc v13) false), (.agg (rowI v14)), (.sl (List.map rowI v15) false)] rfl rfl (fzc (fzs GKey.fzL _) (fzc (fzs GKey.fzL _) (fzc (fzs rowI_fz _) (fzc rfl (fzc (GKey.fz _) (fzc (show (eR_ii64_bool v5).fz = true from (fzc rfl (fzc rfl (fzn)) : fzL _ = true)) (fzc rfl (fzc (fzs GKey.fzL _) (fzc (fzs rowI_fz _) (fzc rfl (fzc (fzs GKey.fzL _) (fzc (fzs rowI_fz _) (fzc (GKey.fz _) (fzc (fzs GKey.fzL _) (fzc (rowI_fz _) (fzc (fzs rowI_fz _) (fzn))))))))))))))))) ⟨SidesC.ok (sc (fun h => decide_eq_true (p := (0 : Int) ≤ (iSub .i64 u9 1)) (by have a0 : u9 > r6 := of_decide_eq_true (h.at 0 rfl); have a2 : u3 < (mLen GKey.enc x0) := of_decide_eq_true (h.at 2 rfl); simp only [lens] at a2; ((try have ia0 : (iSub .i64 u9 1) = u9 - 1 := iSubC (by first | omega | (simp only [lens]; omega)) (by omega)); omega)))
   (sc (fun h => decide_eq_true (p := ((iSub .i64 u9 1) : Int) < (mLen GKey.enc v7)) (by have a0 : u9 > r6 := of_decide_eq_true (h.at 0 rfl); have a2 : u3 < (mLen GKey.enc x0) := of_decide_eq_true (h.at 2 rfl); simp only [lens] at a2; ((try have ia0 : (iSub .i64 u9 1) = u9 - 1 := iSubC (by first | omega | (simp only [lens]; omega)) (by omega)); (simp only [lens, v13, v15] <;> omega))))
   (sc (fun h => rd_side (f := GKey.enc) (l := u10) (i := (iSub .i64 u9 1)) (n := 2) (by have a0 : u9 > r6 := of_decide_eq_true (h.at 0 rfl); have a2 : u3 < (mLen GKey.enc x0) := of_decide_eq_true (h.at 2 rfl); simp only [lens] at a2; ((try have ia0 : (iSub .i64 u9 1) = u9 - 1 := iSubC (by first | omega | (simp only [lens]; omega)) (by omega)); omega)) (by have a0 : u9 > r6 := of_decide_eq_true (h.at 0 rfl); have a2 : u3 < (mLen GKey.enc x0) := of_decide_eq_true (h.at 2 rfl); simp only [lens] at a2; ((try have ia0 : (iSub .i64 u9 1) = u9 - 1 := iSubC (by first | omega | (simp only [lens]; omega)) (by omega)); omega)) (fun _ => rfl) (by first | exact ⟨Nat.le_of_ble_eq_true rfl, rfl⟩ | exact rfl))
   (sc (fun h => decide_eq_true (p := (0 : Int) ≤ u9) (by have a0 : u9 > r6 := of_decide_eq_true (h.at 0 rfl); have a2 : u3 < (mLen GKey.enc x0) := of_decide_eq_true (h.at 2 rfl); simp only [lens] at a2; omega))
   (sc (fun h => decide_eq_true (p := (u9 : Int) < (mLen GKey.enc v7)) (by have a0 : u9 > r6 := of_decide_eq_true (h.at 0 rfl); have a2 : u3 < (mLen GKey.enc x0) := of_decide_eq_true (h.at 2 rfl); simp only [lens] at a2; (simp only [lens, v13, v15] <;> omega)))
   (sc (fun h => st_side (off := 0) (cells := denL _ zz27) (f := GKey.enc) (l := u10) (i := u9) (n := 2) v12 (by have a0 : u9 > r6 := of_decide_eq_true (h.at 0 rfl); have a2 : u3 < (mLen GKey.enc x0) := of_decide_eq_true (h.at 2 rfl); simp only [lens] at a2; omega) (by have a0 : u9 > r6 := of_decide_eq_true (h.at 0 rfl); have a2 : u3 < (mLen GKey.enc x0) := of_decide_eq_true (h.at 2 rfl); simp only [lens] at a2; omega) (fun _ => rfl) rfl rfl)
   (sc (fun h => decide_eq_true (p := (0 : Int) ≤ (iSub .i64 u9 1)) (by have a0 : u9 > r6 := of_decide_eq_true (h.at 0 rfl); have a2 : u3 < (mLen GKey.enc x0) := of_decide_eq_true (h.at 2 rfl); simp only [lens] at a2; ((try have ia0 : (iSub .i64 u9 1) = u9 - 1 := iSubC (by first | omega | (simp only [lens]; omega)) (by omega)); omega)))
   (sc (fun h => decide_eq_true (p := ((iSub .i64 u9 1) : Int) < (mLen rowI v8)) (by have a0 : u9 > r6 := of_decide_eq_true (h.at 0 rfl); have a2 : u3 < (mLen GKey.enc x0) := of_decide_eq_true (h.at 2 rfl); simp only [lens] at a2; ((try have ia0 : (iSub .i64 u9 1) = u9 - 1 := iSubC (by first | omega | (simp only [lens]; omega)) (by omega)); (simp only [lens, v13, v15] <;> omega))))
   (sc (fun h => rd_side (f := rowI) (l := u11) (i := (iSub .i64 u9 1)) (n := 1) (by have a0 : u9 > r6 := of_decide_eq_true (h.at 0 rfl); have a2 : u3 < (mLen GKey.enc x0) := of_decide_eq_true (h.at 2 rfl); simp only [lens] at a2; ((try have ia0 : (iSub .i64 u9 1) = u9 - 1 := iSubC (by first | omega | (simp only [lens]; omega)) (by omega)); omega)) (by have a0 : u9 > r6 := of_decide_eq_true (h.at 0 rfl); have a2 : u3 < (mLen GKey.enc x0) := of_decide_eq_true (h.at 2 rfl); simp only [lens] at a2; ((try have ia0 : (iSub .i64 u9 1) = u9 - 1 := iSubC (by first | omega | (simp only [lens]; omega)) (by omega)); omega)) (fun _ => rfl) (by first | exact ⟨Nat.le_of_ble_eq_true rfl, rfl⟩ | exact rfl))
   (sc (fun h => decide_eq_true (p := (0 : Int) ≤ u9) (by have a0 : u9 > r6 := of_decide_eq_true (h.at 0 rfl); have a2 : u3 < (mLen GKey.enc x0) := of_decide_eq_true (h.at 2 rfl); simp only [lens] at a2; omega))
   (sc (fun h => decide_eq_true (p := (u9 : Int) < (mLen rowI v8)) (by have a0 : u9 > r6 := of_decide_eq_true (h.at 0 rfl); have a2 : u3 < (mLen GKey.enc x0) := of_decide_eq_true (h.at 2 rfl); simp only [lens] at a2; (simp only [lens, v13, v15] <;> omega)))
   (sc (fun h => st_side (off := 0) (cells := denL _ [zz146]) (f := rowI) (l := u11) (i := u9) (n := 1) v14 (by have a0 : u9 > r6 := of_decide_eq_true (h.at 0 rfl); have a2 : u3 < (mLen GKey.enc x0) := of_decide_eq_true (h.at 2 rfl); simp only [lens] at a2; omega) (by have a0 : u9 > r6 := of_decide_eq_true (h.at 0 rfl); have a2 : u3 < (mLen GKey.enc x0) := of_decide_eq_true (h.at 2 rfl); simp only [lens] at a2; omega) (fun _ => rfl) rfl rfl)
   (sn))))))))))))),
   ll_nil⟩
   (rn_cons rk_ref08_Order_l9 (c := (!(decide ((u9 : Int) > r6)))) rfl (fun hc0 => rn_exit rfl rfl) (fun hc0 => rn_last (rn_go rfl (lp_ref08_Order_l9 x0 u1 u2 u3 v4 v5 r6 v7 v8 hl0 hl1 hl2 h0 q0 q1 q2 q3 q4 n ((iSub .i64 u9 1)) (v13) (v15) (by have g0_0 : u9 > r6 := of_decide_eq_true (bn_f hc0); (try have ia0 : (iSub .i64 u9 1) = u9 - 1 := iSubC (by first | omega | (simp only [lens]; omega)) (by omega)); refine ⟨?_, ?_, ?_, ?_⟩ <;> ((simp [lens, v13, v15, *] <;> omega))) (by have g0_0 : u9 > r6 := of_decide_eq_true (bn_f hc0); (try have ia0 : (iSub .i64 u9 1) = u9 - 1 := iSubC (by first | omega | (simp only [lens]; omega)) (by omega)); omega)))))
def rk_ref08_Order_l1 (r : List GKey) : Nat × List AV := (0, [(.sl (List.map GKey.enc r) false)])
theorem lp_ref08_Order_l1 (x0 : List GKey) (hl0 : x0.length ≤ 4294967296) (h0 : x0.length ≤ 1048576) : ∀ (n : Nat) (u1 : List GKey) (u2 : List Int) (u3 : Int), (0 ≤ u3 ∧ (u1.length : Int) ≤ u3 ∧ (u2.length : Int) ≤ u3 ∧ u1.length = u2.length ∧ u1.length ≤ u3 ∧ u3 ≤ x0.length) → ((x0.length : Int) - u3).toNat < n → RunN (fun σ => SidesOk Try.prog σ [zz99,
  zz62,
  zz117,
  zz128,
  (zz33, (.row (.var 0 []) (.var 3 []) zz27)),
  (zz33, (.tm zz84)),
  zz132,
  zz147,
  (zz33, (.tm zz84)),
  zz133,
  zz118,
  zz121,
  zz122] ∧ LoL Try.prog zz9 σ)
  zz87
  [(.sl (List.map GKey.enc x0) false)] 3 n [(.sl (List.map GKey.enc u1) false), (.sl (List.map rowI u2) false), (.p (.int .i64 u3))] (rk_ref08_Order_l1 (ref08_Order_l1 x0 n u1 u2 u3)).1 (rk_ref08_Order_l1 (ref08_Order_l1 x0 n u1 u2 u3)).2
 | 0, u1, u2, u3, hi, hm => absurd hm (Nat.not_lt_zero _)
 | n + 1, u1, u2, u3, hi, hm =>
  let v4 : GKey := x0.getD (u3 : Int).toNat default
  let v5 : Int × Bool := ref08_Index v4
  let r6 : Int := ref08_Order_l6 u2 v5 (u1.length + 1) (mLen GKey.enc u1)
  let v7 : List GKey := u1 ++ [(GKey.mk [] 0)]
  let v8 : List Int := u2 ++ [0]
  let r9 : Int × List GKey × List Int := ref08_Order_l9 r6 (u1.length + 1) (iSub .i64 (mLen GKey.enc v7) 1) v7 v8
  let v12 : GKey := x0.getD (u3 : Int).toNat default
  let v13 : List GKey := r9.2.1.set (r6 : Int).toNat v12
  let v14 : List Int := r9.2.2.set (r6 : Int).toNat v5.1
  have hp6_0 : 0 ≤ r6 ∧ r6 ≤ u1.length := ref08_Order_l6_bd (by omega)
  have hi7_0 : iSub .i64 (mLen GKey.enc v7) 1 = u1.length := app1_len (by omega)
  have hp9_0 : r9.2.1.length = u1.length + 1 ∧ r9.2.2.length = u2.length + 1 := ref08_Order_l9_len (by omega) (by omega)
  rn_mk (r := rk_ref08_Order_l1 (ref08_Order_l1 x0 (n + 1) u1 u2 u3)) [(GKey.av v4), (eR_ii64_bool v5), (.p (.int .i64 r6)), (.sl (List.map GKey.enc v7) false), (.sl (List.map rowI v8) false), (.p (.int .i64 r9.1)), (.sl (List.map GKey.enc r9.2.1) false), (.sl (List.map rowI r9.2.2) false), (GKey.av v12), (.sl (List.map GKey.enc v13) false), (.sl (List.map rowI v14) false)] [(.sl (List.map GKey.enc x0) false), (.sl (List.map GKey.enc u1) false), (.sl (List.map rowI u2) false), (.p (.int .i64 u3)), (GKey.av v4), (eR_ii64_bool v5), (.p (.int .i64 r6)), (.sl (List.map GKey.enc v7) false), (.sl (List.map rowI v8) false), (.p (.int .i64 r9.1)), (.sl (List.map GKey.enc r9.2.1) false), (.sl (List.map rowI r9.2.2) false), (GKey.av v12), (.sl (List.map GKey.enc v13) false), (.sl (List.map rowI v14) false)] rfl rfl (fzc (fzs GKey.fzL _) (fzc (fzs GKey.fzL _) (fzc (fzs rowI_fz _) (fzc rfl (fzc (GKey.fz _) (fzc (show (eR_ii64_bool v5).fz = true from (fzc rfl (fzc rfl (fzn)) : fzL _ = true)) (fzc rfl (fzc (fzs GKey.fzL _) (fzc (fzs rowI_fz _) (fzc rfl (fzc (fzs GKey.fzL _) (fzc (fzs rowI_fz _) (fzc (GKey.fz _) (fzc (fzs GKey.fzL _) (fzc (fzs rowI_fz _) (fzn)))))))))))))))) ⟨SidesC.ok (sc (fun h => row_i (i := u3) (by have a0 : u3 < (mLen GKey.enc x0) := of_decide_eq_true (h.at 0 rfl); simp only [lens] at a0; omega) (by have a0 : u3 < (mLen GKey.enc x0) := of_decide_eq_true (h.at 0 rfl); simp only [lens] at a0; omega))
   (sc (fun _ => pc_ref08_Index (v4))
   (sc (fun h => app_side (l := u1) (r := [(GKey.mk [] 0)]) (GKey.rok _) (by have a1 : u3 < (mLen GKey.enc x0) := of_decide_eq_true (h.at 1 rfl); simp only [lens] at a1; (simp [lens, v7, v8, v13, v14, *] <;> omega)) rfl)
   (sc (fun h => app_side (l := u2) (r := [0]) (rowI_rok _) (by have a1 : u3 < (mLen GKey.enc x0) := of_decide_eq_true (h.at 1 rfl); simp only [lens] at a1; (simp [lens, v7, v8, v13, v14, *] <;> omega)) rfl)
   (sc (fun h => row_i (i := u3) (by have a1 : u3 < (mLen GKey.enc x0) := of_decide_eq_true (h.at 1 rfl); simp only [lens] at a1; omega) (by have a1 : u3 < (mLen GKey.enc x0) := of_decide_eq_true (h.at 1 rfl); simp only [lens] at a1; omega))
   (sc (fun h => decide_eq_true (p := (0 : Int) ≤ r6) (by have a1 : u3 < (mLen GKey.enc x0) := of_decide_eq_true (h.at 1 rfl); simp only [lens] at a1; omega))
   (sc (fun h => decide_eq_true (p := (r6 : Int) < (mLen GKey.enc v7)) (by have a1 : u3 < (mLen GKey.enc x0) := of_decide_eq_true (h.at 1 rfl); simp only [lens] at a1; (simp only [lens, v7, v8, v13, v14] <;> omega)))
   (sc (fun h => st_side (off := 0) (cells := denL _ zz27) (f := GKey.enc) (l := r9.2.1) (i := r6) (n := 2) v12 (by have a1 : u3 < (mLen GKey.enc x0) := of_decide_eq_true (h.at 1 rfl); simp only [lens] at a1; omega) (by have a1 : u3 < (mLen GKey.enc x0) := of_decide_eq_true (h.at 1 rfl); simp only [lens] at a1; omega) (fun _ => rfl) rfl rfl)
   (sc (fun h => decide_eq_true (p := (0 : Int) ≤ r6) (by have a1 : u3 < (mLen GKey.enc x0) := of_decide_eq_true (h.at 1 rfl); simp only [lens] at a1; omega))
   (sc (fun h => decide_eq_true (p := (r6 : Int) < (mLen rowI v8)) (by have a1 : u3 < (mLen GKey.enc x0) := of_decide_eq_true (h.at 1 rfl); simp only [lens] at a1; (simp only [lens, v7, v8, v13, v14] <;> omega)))
   (sc (fun h => st_side (off := 0) (cells := denL _ [(.sc (.int .i64) (.var 5 [0]))]) (f := rowI) (l := r9.2.2) (i := r6) (n := 1) v5.1 (by have a1 : u3 < (mLen GKey.enc x0) := of_decide_eq_true (h.at 1 rfl); simp only [lens] at a1; omega) (by have a1 : u3 < (mLen GKey.enc x0) := of_decide_eq_true (h.at 1 rfl); simp only [lens] at a1; omega) (fun _ => rfl) rfl rfl)
   (sc (fun h => iEq_t.2 (show ((mLen GKey.enc v7) : Int) = (mLen GKey.enc v13) from (by have a1 : u3 < (mLen GKey.enc x0) := of_decide_eq_true (h.at 1 rfl); simp only [lens] at a1; (simp only [lens, v7, v8, v13, v14] <;> omega))))
   (sc (fun h => iEq_t.2 (show ((mLen rowI v8) : Int) = (mLen rowI v14) from (by have a1 : u3 < (mLen GKey.enc x0) := of_decide_eq_true (h.at 1 rfl); simp only [lens] at a1; (simp only [lens, v7, v8, v13, v14] <;> omega))))
   (sn)))))))))))))),
   ll_cons (lo_mk1 (u1.length + 1) [(.p (.int .i64 r6))] rfl (fun h hb => lp_ref08_Order_l6 x0 u1 u2 u3 v4 v5 (len_of (f := GKey.enc) (l := x0) (hb _ (List.mem_of_getElem? (i := 0) rfl))) (len_of (f := GKey.enc) (l := u1) (hb _ (List.mem_of_getElem? (i := 1) rfl))) (len_of (f := rowI) (l := u2) (hb _ (List.mem_of_getElem? (i := 2) rfl))) h0 (by have a1 : u3 < (mLen GKey.enc x0) := of_decide_eq_true (h.at 1 rfl); simp only [lens] at a1; omega) (by have a1 : u3 < (mLen GKey.enc x0) := of_decide_eq_true (h.at 1 rfl); simp only [lens] at a1; omega) (u1.length + 1) ((mLen GKey.enc u1)) (by have a1 : u3 < (mLen GKey.enc x0) := of_decide_eq_true (h.at 1 rfl); simp only [lens] at a1; refine ⟨?_, ?_⟩ <;> ((simp only [lens, v7, v8, v13, v14] <;> omega))) (by have a1 : u3 < (mLen GKey.enc x0) := of_decide_eq_true (h.at 1 rfl); simp only [lens] at a1; (simp only [lens, v7, v8, v13, v14] <;> omega))) rfl)
  (ll_cons (lo_mk1 (u1.length + 1) [(.p (.int .i64 r9.1)), (.sl (List.map GKey.enc r9.2.1) false), (.sl (List.map rowI r9.2.2) false)] rfl (fun h hb => lp_ref08_Order_l9 x0 u1 u2 u3 v4 v5 r6 v7 v8 (len_of (f := GKey.enc) (l := x0) (hb _ (List.mem_of_getElem? (i := 0) rfl))) (len_of (f := GKey.enc) (l := v7) (hb _ (List.mem_of_getElem? (i := 1) rfl))) (len_of (f := rowI) (l := v8) (hb _ (List.mem_of_getElem? (i := 2) rfl))) h0 (by have a1 : u3 < (mLen GKey.enc x0) := of_decide_eq_true (h.at 1 rfl); simp only [lens] at a1; omega) (by have a1 : u3 < (mLen GKey.enc x0) := of_decide_eq_true (h.at 1 rfl); simp only [lens] at a1; omega) (by have a1 : u3 < (mLen GKey.enc x0) := of_decide_eq_true (h.at 1 rfl); simp only [lens] at a1; omega) (by have a1 : u3 < (mLen GKey.enc x0) := of_decide_eq_true (h.at 1 rfl); simp only [lens] at a1; (simp only [lens, v7, v8, v13, v14] <;> omega)) (by have a1 : u3 < (mLen GKey.enc x0) := of_decide_eq_true (h.at 1 rfl); simp only [lens] at a1; (simp only [lens, v7, v8, v13, v14] <;> omega)) (u1.length + 1) ((iSub .i64 (mLen GKey.enc v7) 1)) (v7) (v8) (by have a1 : u3 < (mLen GKey.enc x0) := of_decide_eq_true (h.at 1 rfl); simp only [lens] at a1; (try have ia0 : (iSub .i64 (mLen GKey.enc v7) 1) = (mLen GKey.enc v7) - 1 := iSubC (by first | omega | (simp only [lens]; omega)) (by omega)); refine ⟨?_, ?_, ?_, ?_⟩ <;> ((simp only [lens, v7, v8, v13, v14] at * <;> omega))) (by have a1 : u3 < (mLen GKey.enc x0) := of_decide_eq_true (h.at 1 rfl); simp only [lens] at a1; (try have ia0 : (iSub .i64 (mLen GKey.enc v7) 1) = (mLen GKey.enc v7) - 1 := iSubC (by first | omega | (simp only [lens]; omega)) (by omega)); omega)) rfl)
  (ll_nil))⟩
   (rn_cons rk_ref08_Order_l1 (c := (!(decide ((u3 : Int) < (mLen GKey.enc x0))))) rfl (fun hc0 => rn_exit rfl rfl) (fun hc0 => rn_cons rk_ref08_Order_l1 (c := (!v5.2)) rfl (fun hc1 => rn_go rfl (lp_ref08_Order_l1 x0 hl0 h0 n (u1) (u2) ((iAdd .i64 u3 1)) (by have g0_0 : u3 < (mLen GKey.enc x0) := of_decide_eq_true (bn_f hc0); simp only [lens] at g0_0; (try have ia0 : (iAdd .i64 u3 1) = u3 + 1 := iAddC (by first | omega | (simp only [lens]; omega)) (by omega)); refine ⟨?_, ?_, ?_, ?_, ?_, ?_⟩ <;> (omega)) (by have g0_0 : u3 < (mLen GKey.enc x0) := of_decide_eq_true (bn_f hc0); simp only [lens] at g0_0; (try have ia0 : (iAdd .i64 u3 1) = u3 + 1 := iAddC (by first | omega | (simp only [lens]; omega)) (by omega)); omega))) (fun hc1 => rn_last (rn_go rfl (lp_ref08_Order_l1 x0 hl0 h0 n (v13) (v14) ((iAdd .i64 u3 1)) (by have g0_0 : u3 < (mLen GKey.enc x0) := of_decide_eq_true (bn_f hc0); simp only [lens] at g0_0; (try have ia0 : (iAdd .i64 u3 1) = u3 + 1 := iAddC (by first | omega | (simp only [lens]; omega)) (by omega)); refine ⟨?_, ?_, ?_, ?_, ?_, ?_⟩ <;> ((simp only [lens, v7, v8, v13, v14] at * <;> omega))) (by have g0_0 : u3 < (mLen GKey.enc x0) := of_decide_eq_true (bn_f hc0); simp only [lens] at g0_0; (try have ia0 : (iAdd .i64 u3 1) = u3 + 1 := iAddC (by first | omega | (simp only [lens]; omega)) (by omega)); omega))))))
def rk_ref08_Order_l2 (r : List GKey) : Nat × List AV := (0, [(.sl (List.map GKey.enc r) false)])
theorem lp_ref08_Order_l2 (x0 : List GKey) (r1 : List GKey) (hl0 : x0.length ≤ 4294967296) (h0 : x0.length ≤ 1048576) : ∀ (n : Nat) (u2 : List GKey) (u3 : Int), (0 ≤ u3 ∧ u2.length ≤ 1048577 + u3) → ((x0.length : Int) - u3).toNat < n → RunN (fun σ => SidesOk Try.prog σ [zz99,
  zz62,
  zz119,
  (zz72, (.row (.var 0 []) (.var 3 []) zz25)),
  (zz72, (.app 2 (.var 2 []) [zz25] (.var 8 [])))] ∧ LoL Try.prog [] σ)
  zz85
  [(.sl (List.map GKey.enc x0) false), (.sl (List.map GKey.enc r1) false)] 2 n [(.sl (List.map GKey.enc u2) false), (.p (.int .i64 u3))] (rk_ref08_Order_l2 (ref08_Order_l2 x0 n u2 u3)).1 (rk_ref08_Order_l2 (ref08_Order_l2 x0 n u2 u3)).2
 | 0, u2, u3, hi, hm => absurd hm (Nat.not_lt_zero _)
 | n + 1, u2, u3, hi, hm =>
  let v4 : GKey := x0.getD (u3 : Int).toNat default
  let v5 : Int × Bool := ref08_Index v4
  let v6 : GKey := x0.getD (u3 : Int).toNat default
  let v7 : GKey := x0.getD (u3 : Int).toNat default
  let v8 : List GKey := u2 ++ [v7]
  rn_mk (r := rk_ref08_Order_l2 (ref08_Order_l2 x0 (n + 1) u2 u3)) [(GKey.av v4), (eR_ii64_bool v5), (GKey.av v6), (GKey.av v7), (.sl (List.map GKey.enc v8) false)] [(.sl (List.map GKey.enc x0) false), (.sl (List.map GKey.enc r1) false), (.sl (List.map GKey.enc u2) false), (.p (.int .i64 u3)), (GKey.av v4), (eR_ii64_bool v5), (GKey.av v6), (GKey.av v7), (.sl (List.map GKey.enc v8) false)] rfl rfl (fzc (fzs GKey.fzL _) (fzc (fzs GKey.fzL _) (fzc (fzs GKey.fzL _) (fzc rfl (fzc (GKey.fz _) (fzc (show (eR_ii64_bool v5).fz = true from (fzc rfl (fzc rfl (fzn)) : fzL _ = true)) (fzc (GKey.fz _) (fzc (GKey.fz _) (fzc (fzs GKey.fzL _) (fzn)))))))))) ⟨SidesC.ok (sc (fun h => row_i (i := u3) (by have a0 : u3 < (mLen GKey.enc x0) := of_decide_eq_true (h.at 0 rfl); simp only [lens] at a0; omega) (by have a0 : u3 < (mLen GKey.enc x0) := of_decide_eq_true (h.at 0 rfl); simp only [lens] at a0; omega))
   (sc (fun _ => pc_ref08_Index (v4))
   (sc (fun h => row_i (i := u3) (by have a1 : u3 < (mLen GKey.enc x0) := of_decide_eq_true (h.at 1 rfl); simp only [lens] at a1; omega) (by have a1 : u3 < (mLen GKey.enc x0) := of_decide_eq_true (h.at 1 rfl); simp only [lens] at a1; omega))
   (sc (fun h => row_i (i := u3) (by have a1 : v6.Sym ≤ 0 := of_decide_eq_true (h.at 1 rfl); have a2 : u3 < (mLen GKey.enc x0) := of_decide_eq_true (h.at 2 rfl); simp only [lens] at a2; omega) (by have a1 : v6.Sym ≤ 0 := of_decide_eq_true (h.at 1 rfl); have a2 : u3 < (mLen GKey.enc x0) := of_decide_eq_true (h.at 2 rfl); simp only [lens] at a2; omega))
   (sc (fun h => app_side (l := u2) (r := [v7]) (GKey.rok _) (by have a1 : v6.Sym ≤ 0 := of_decide_eq_true (h.at 1 rfl); have a2 : u3 < (mLen GKey.enc x0) := of_decide_eq_true (h.at 2 rfl); simp only [lens] at a2; (simp [lens, v8, *] <;> omega)) rfl)
   (sn)))))),
   ll_nil⟩
   (rn_cons rk_ref08_Order_l2 (c := (!(decide ((u3 : Int) < (mLen GKey.enc x0))))) rfl (fun hc0 => rn_exit rfl rfl) (fun hc0 => rn_cons rk_ref08_Order_l2 (c := ((!v5.2) && (decide ((v6.Sym : Int) ≤ 0)))) rfl (fun hc1 => rn_go rfl (lp_ref08_Order_l2 x0 r1 hl0 h0 n (v8) ((iAdd .i64 u3 1)) (by have g0_0 : u3 < (mLen GKey.enc x0) := of_decide_eq_true (bn_f hc0); have g1_0 : v6.Sym ≤ 0 := of_decide_eq_true (q_and2 hc1); simp only [lens] at g0_0; (try have ia0 : (iAdd .i64 u3 1) = u3 + 1 := iAddC (by first | omega | (simp only [lens]; omega)) (by omega)); refine ⟨?_, ?_⟩ <;> ((simp only [lens, v8] at * <;> omega))) (by have g0_0 : u3 < (mLen GKey.enc x0) := of_decide_eq_true (bn_f hc0); have g1_0 : v6.Sym ≤ 0 := of_decide_eq_true (q_and2 hc1); simp only [lens] at g0_0; (try have ia0 : (iAdd .i64 u3 1) = u3 + 1 := iAddC (by first | omega | (simp only [lens]; omega)) (by omega)); omega))) (fun hc1 => rn_last (rn_go rfl (lp_ref08_Order_l2 x0 r1 hl0 h0 n (u2) ((iAdd .i64 u3 1)) (by have g0_0 : u3 < (mLen GKey.enc x0) := of_decide_eq_true (bn_f hc0); simp only [lens] at g0_0; (try have ia0 : (iAdd .i64 u3 1) = u3 + 1 := iAddC (by first | omega | (simp only [lens]; omega)) (by omega)); refine ⟨?_, ?_⟩ <;> (omega)) (by have g0_0 : u3 < (mLen GKey.enc x0) := of_decide_eq_true (bn_f hc0); simp only [lens] at g0_0; (try have ia0 : (iAdd .i64 u3 1) = u3 + 1 := iAddC (by first | omega | (simp only [lens]; omega)) (by omega)); omega))))))
def rk_ref08_Order_l3 (r : List GKey) : Nat × List AV := (0, [(.sl (List.map GKey.enc r) false)])
theorem lp_ref08_Order_l3 (x0 : List GKey) (r1 : List GKey) (r2 : List GKey) (hl0 : x0.length ≤ 4294967296) (h0 : x0.length ≤ 1048576) : ∀ (n : Nat) (u3 : List GKey) (u4 : Int), (0 ≤ u4 ∧ u3.length ≤ 2097154 + u4) → ((x0.length : Int) - u4).toNat < n → RunN (fun σ => SidesOk Try.prog σ [([(zz56, true)], (.row (.var 0 []) (.var 4 []) zz94)),
  (zz125, (.row (.var 0 []) (.var 4 []) zz28)),
  (zz125, (.app 2 (.var 3 []) [zz28] (.var 7 [])))] ∧ LoL Try.prog [] σ)
  zz104
  [(.sl (List.map GKey.enc x0) false), (.sl (List.map GKey.enc r1) false), (.sl (List.map GKey.enc r2) false)] 2 n [(.sl (List.map GKey.enc u3) false), (.p (.int .i64 u4))] (rk_ref08_Order_l3 (ref08_Order_l3 x0 n u3 u4)).1 (rk_ref08_Order_l3 (ref08_Order_l3 x0 n u3 u4)).2
 | 0, u3, u4, hi, hm => absurd hm (Nat.not_lt_zero _)
 | n + 1, u3, u4, hi, hm =>
  let v5 : GKey := x0.getD (u4 : Int).toNat default
  let v6 : GKey := x0.getD (u4 : Int).toNat default
  let v7 : List GKey := u3 ++ [v6]
  rn_mk (r := rk_ref08_Order_l3 (ref08_Order_l3 x0 (n + 1) u3 u4)) [(GKey.av v5), (GKey.av v6), (.sl (List.map GKey.enc v7) false)] [(.sl (List.map GKey.enc x0) false), (.sl (List.map GKey.enc r1) false), (.sl (List.map GKey.enc r2) false), (.sl (List.map GKey.enc u3) false), (.p (.int .i64 u4)), (GKey.av v5), (GKey.av v6), (.sl (List.map GKey.enc v7) false)] rfl rfl (fzc (fzs GKey.fzL _) (fzc (fzs GKey.fzL _) (fzc (fzs GKey.fzL _) (fzc (fzs GKey.fzL _) (fzc rfl (fzc (GKey.fz _) (fzc (GKey.fz _) (fzc (fzs GKey.fzL _) (fzn))))))))) ⟨SidesC.ok (sc (fun h => row_i (i := u4) (by have a0 : u4 < (mLen GKey.enc x0) := of_decide_eq_true (h.at 0 rfl); simp only [lens] at a0; omega) (by have a0 : u4 < (mLen GKey.enc x0) := of_decide_eq_true (h.at 0 rfl); simp only [lens] at a0; omega))
   (sc (fun h => row_i (i := u4) (by have a0 : v5.Sym > 0 := of_decide_eq_true (h.at 0 rfl); have a1 : u4 < (mLen GKey.enc x0) := of_decide_eq_true (h.at 1 rfl); simp only [lens] at a1; omega) (by have a0 : v5.Sym > 0 := of_decide_eq_true (h.at 0 rfl); have a1 : u4 < (mLen GKey.enc x0) := of_decide_eq_true (h.at 1 rfl); simp only [lens] at a1; omega))
   (sc (fun h => app_side (l := u3) (r := [v6]) (GKey.rok _) (by have a0 : v5.Sym > 0 := of_decide_eq_true (h.at 0 rfl); have a1 : u4 < (mLen GKey.enc x0) := of_decide_eq_true (h.at 1 rfl); simp only [lens] at a1; (simp [lens, v7, *] <;> omega)) rfl)
   (sn)))),
   ll_nil⟩
   (rn_cons rk_ref08_Order_l3 (c := (!(decide ((u4 : Int) < (mLen GKey.enc x0))))) rfl (fun hc0 => rn_exit rfl rfl) (fun hc0 => rn_cons rk_ref08_Order_l3 (c := (decide ((v5.Sym : Int) > 0))) rfl (fun hc1 => rn_go rfl (lp_ref08_Order_l3 x0 r1 r2 hl0 h0 n (v7) ((iAdd .i64 u4 1)) (by have g0_0 : u4 < (mLen GKey.enc x0) := of_decide_eq_true (bn_f hc0); have g1_0 : v5.Sym > 0 := of_decide_eq_true hc1; simp only [lens] at g0_0; (try have ia0 : (iAdd .i64 u4 1) = u4 + 1 := iAddC (by first | omega | (simp only [lens]; omega)) (by omega)); refine ⟨?_, ?_⟩ <;> ((simp only [lens, v7] at * <;> omega))) (by have g0_0 : u4 < (mLen GKey.enc x0) := of_decide_eq_true (bn_f hc0); have g1_0 : v5.Sym > 0 := of_decide_eq_true hc1; simp only [lens] at g0_0; (try have ia0 : (iAdd .i64 u4 1) = u4 + 1 := iAddC (by first | omega | (simp only [lens]; omega)) (by omega)); omega))) (fun hc1 => rn_last (rn_go rfl (lp_ref08_Order_l3 x0 r1 r2 hl0 h0 n (u3) ((iAdd .i64 u4 1)) (by have g0_0 : u4 < (mLen GKey.enc x0) := of_decide_eq_true (bn_f hc0); have g1_0 : ¬ v5.Sym > 0 := of_decide_eq_false hc1; simp only [lens] at g0_0; (try have ia0 : (iAdd .i64 u4 1) = u4 + 1 := iAddC (by first | omega | (simp only [lens]; omega)) (by omega)); refine ⟨?_, ?_⟩ <;> (omega)) (by have g0_0 : u4 < (mLen GKey.enc x0) := of_decide_eq_true (bn_f hc0); have g1_0 : ¬ v5.Sym > 0 := of_decide_eq_false hc1; simp only [lens] at g0_0; (try have ia0 : (iAdd .i64 u4 1) = u4 + 1 := iAddC (by first | omega | (simp only [lens]; omega)) (by omega)); omega))))))
theorem e_ref08_Order : sFnI Try.prog xBase iBase mdI (fcI kA 21 [13, 12, 105, 104, 106, 107, 108, 109, 10, 7, 36, 37, 35, 38, 40, 39, 41, 6, 3, 4, 9, 8, 5] [(8, (.mk [0, 2] (.mk [(3, (.os 9 2)), (13, (.sc (.int .i64)))] [] [] 10) [(.normal, (.mk [(3, (.os 9 2))] [] [] 10))])), (6, (.mk [0, 2] (.mk [(3, (.os 7 2)), (10, (.sc (.int .i64)))] [] [] 8) [(.normal, (.mk [(3, (.os 7 2))] [] [] 8))])), (0, (.mk [0, 2] (.mk [(3, (.os 4 2)), (4, (.os 5 1)), (5, (.sc (.int .i64)))] [] [] 6) [(.normal, (.mk [(3, (.os 4 2))] [] [] 6))])), (4, (.mk [0, 2, 3, 4, 5, 6, 7, 8] (.mk [(9, (.sc (.int .i64)))] [] [(28, 2), (32, 1)] 38) [(.normal, (.mk [(9, (.sc (.int .i64)))] [] [(28, 2), (32, 1)] 38))])), (2, (.mk [0, 2, 3, 4, 5, 6, 7] (.mk [(8, (.sc (.int .i64)))] [] [] 25) [(.normal, (.mk [(8, (.sc (.int .i64)))] [] [] 25))]))]) 3 200 21 [.sc .sl (.var 0 [])] 1 = some ⟨[((.lb true), (.sc .sl (.var 3 [])))],
 [],
 [(.mk [] 1 3 [(.sc .sl .nl), (.sc .sl .nl), (.sc (.int .i64) (.li 0))] zz87 [zz99, zz62, zz117, zz128, (zz33, (.row (.var 0 []) (.var 3 []) zz27)), (zz33, (.tm zz84)), zz132, zz147, (zz33, (.tm zz84)), zz133, zz118, zz121, zz122] zz9 [1] [(.var 0 [])]),
 (.mk [] 2 2 [(.sc .sl (.var 1 [])), (.sc (.int .i64) (.li 0))] zz85 [zz99, zz62, zz119, (zz72, (.row (.var 0 []) (.var 3 []) zz25)), (zz72, (.app 2 (.var 2 []) [zz25] (.var 8 [])))] [] [1] [(.var 0 [])]),
 (.mk [] 3 2 [(.sc .sl (.var 2 [])), (.sc (.int .i64) (.li 0))] zz104 [([(zz56, true)], (.row (.var 0 []) (.var 4 []) zz94)), (zz125, (.row (.var 0 []) (.var 4 []) zz28)), (zz125, (.app 2 (.var 3 []) [zz28] (.var 7 [])))] [] [1] [(.var 0 [])])]⟩ := by kernel_rfl
theorem pc_ref08_Order (x0 : List GKey) (h0 : x0.length ≤ 1048576) : PC Try.prog 21 [(.sl (List.map GKey.enc x0) false)] (.sl (List.map GKey.enc (ref08_Order x0)) false) := pc_bnd fun hb =>
 have hb0 : x0.length ≤ 4294967296 := by have := hb.1.1; simpa using this
 let r1 : List GKey := ref08_Order_l1 x0 (x0.length + 1) [] [] 0
 let r2 : List GKey := ref08_Order_l2 x0 (x0.length + 1) r1 0
 let r3 : List GKey := ref08_Order_l3 x0 (x0.length + 1) r2 0
 have hp1_0 : r1.length ≤ 1048577 := ref08_Order_l1_len h0
 have hp2_0 : r2.length ≤ 2097154 := ref08_Order_l2_len h0 hp1_0
 mk_pcXIL (ρ := [(.sl (List.map GKey.enc x0) false), (.sl (List.map GKey.enc r1) false), (.sl (List.map GKey.enc r2) false), (.sl (List.map GKey.enc r3) false)]) hmix xBase_ok iBase_ok e_ref08_Order (fzc (fzs GKey.fzL _) (fzc (fzs GKey.fzL _) (fzc (fzs GKey.fzL _) (fzc (fzs GKey.fzL _) (fzn)))))
  (sn)
  (ll_cons (lo_mk1 (x0.length + 1) [(.sl (List.map GKey.enc r1) false)] rfl (fun h hb => lp_ref08_Order_l1 x0 (len_of (f := GKey.enc) (l := x0) (hb _ (List.mem_of_getElem? (i := 0) rfl))) h0 (x0.length + 1) ([]) ([]) (0) (by skip; refine ⟨?_, ?_, ?_, ?_, ?_, ?_⟩ <;> ((simp [lens, *] <;> omega))) (by skip; omega)) rfl)
  (ll_cons (lo_mk1 (x0.length + 1) [(.sl (List.map GKey.enc r2) false)] rfl (fun h hb => lp_ref08_Order_l2 x0 r1 (len_of (f := GKey.enc) (l := x0) (hb _ (List.mem_of_getElem? (i := 0) rfl))) h0 (x0.length + 1) (r1) (0) (by skip; refine ⟨?_, ?_⟩ <;> (omega)) (by skip; omega)) rfl)
  (ll_cons (lo_mk1 (x0.length + 1) [(.sl (List.map GKey.enc r3) false)] rfl (fun h hb => lp_ref08_Order_l3 x0 r1 r2 (len_of (f := GKey.enc) (l := x0) (hb _ (List.mem_of_getElem? (i := 0) rfl))) h0 (x0.length + 1) (r2) (0) (by skip; refine ⟨?_, ?_⟩ <;> (omega)) (by skip; omega)) rfl)
  (ll_nil))))
  rfl (selL rfl)
def rk_ref08_Same_l2 (r : Bool × Bool × Bool) : Nat × List AV := rk2 r.1 [(.p (.bool r.2.1))] [(.p (.bool r.2.2))]
theorem lp_ref08_Same_l2 (x0 : List GKey) (x1 : List GKey) (hl0 : x0.length ≤ 4294967296) (hl1 : x1.length ≤ 4294967296) : ∀ (n : Nat) (u2 : Bool) (u3 : Int), (0 ≤ u3) → ((x0.length : Int) - u3).toNat < n → RunN (fun σ => SidesOk Try.prog σ [(zz126, (.row (.var 0 []) (.var 3 []) zz45)),
  (zz126, (.row (.var 1 []) (.var 3 []) zz94))] ∧ LoL Try.prog [] σ)
  zz76
  [(.sl (List.map GKey.enc x0) false), (.sl (List.map GKey.enc x1) false)] 2 n [(.p (.bool u2)), (.p (.int .i64 u3))] (rk_ref08_Same_l2 (ref08_Same_l2 x0 x1 n u2 u3)).1 (rk_ref08_Same_l2 (ref08_Same_l2 x0 x1 n u2 u3)).2
 | 0, u2, u3, hi, hm => absurd hm (Nat.not_lt_zero _)
 | n + 1, u2, u3, hi, hm =>
  let v4 : GKey := x0.getD (u3 : Int).toNat default
  let v5 : GKey := x1.getD (u3 : Int).toNat default
  rn_mk (r := rk_ref08_Same_l2 (ref08_Same_l2 x0 x1 (n + 1) u2 u3)) [(GKey.av v4), (GKey.av v5)] [(.sl (List.map GKey.enc x0) false), (.sl (List.map GKey.enc x1) false), (.p (.bool u2)), (.p (.int .i64 u3)), (GKey.av v4), (GKey.av v5)] rfl rfl (fzc (fzs GKey.fzL _) (fzc (fzs GKey.fzL _) (fzc rfl (fzc rfl (fzc (GKey.fz _) (fzc (GKey.fz _) (fzn))))))) ⟨SidesC.ok (sc (fun h => row_i (i := u3) (by have a0 : u3 < (mLen GKey.enc x0) := of_decide_eq_true (h.at 0 rfl); have a1 : (mLen GKey.enc x0) = (mLen GKey.enc x1) := iNe_f.1 (h.at 1 rfl); simp only [lens] at a0 a1; omega) (by have a0 : u3 < (mLen GKey.enc x0) := of_decide_eq_true (h.at 0 rfl); have a1 : (mLen GKey.enc x0) = (mLen GKey.enc x1) := iNe_f.1 (h.at 1 rfl); simp only [lens] at a0 a1; omega))
   (sc (fun h => row_i (i := u3) (by have a0 : u3 < (mLen GKey.enc x0) := of_decide_eq_true (h.at 0 rfl); have a1 : (mLen GKey.enc x0) = (mLen GKey.enc x1) := iNe_f.1 (h.at 1 rfl); simp only [lens] at a0 a1; omega) (by have a0 : u3 < (mLen GKey.enc x0) := of_decide_eq_true (h.at 0 rfl); have a1 : (mLen GKey.enc x0) = (mLen GKey.enc x1) := iNe_f.1 (h.at 1 rfl); simp only [lens] at a0 a1; omega))
   (sn))),
   ll_nil⟩
   (rn_cons rk_ref08_Same_l2 (c := (!(decide ((u3 : Int) < (mLen GKey.enc x0))))) rfl (fun hc0 => rn_exit rfl rfl) (fun hc0 => rn_cons rk_ref08_Same_l2 (c := (!((sEq v4.Str v5.Str) && (iEq v4.Sym v5.Sym)))) rfl (fun hc1 => rn_exit rfl rfl) (fun hc1 => rn_last (rn_go rfl (lp_ref08_Same_l2 x0 x1 hl0 hl1 n (u2) ((iAdd .i64 u3 1)) (by have g0_0 : u3 < (mLen GKey.enc x0) := of_decide_eq_true (bn_f hc0); have g1_0 : v4.Sym = v5.Sym := iEq_t.1 (q_and2 (bn_f hc1)); simp only [lens] at g0_0; (try have ia0 : (iAdd .i64 u3 1) = u3 + 1 := iAddC (by first | omega | (simp only [lens]; omega)) (by omega)); (omega)) (by have g0_0 : u3 < (mLen GKey.enc x0) := of_decide_eq_true (bn_f hc0); have g1_0 : v4.Sym = v5.Sym := iEq_t.1 (q_and2 (bn_f hc1)); simp only [lens] at g0_0; (try have ia0 : (iAdd .i64 u3 1) = u3 + 1 := iAddC (by first | omega | (simp only [lens]; omega)) (by omega)); omega))))))
theorem e_ref08_Same : sFnI Try.prog xBase iBase mdI (fcI kA 22 [5, 4] [(0, (.mk [0, 1] (.mk [(4, (.sc .bool)), (5, (.sc (.int .i64)))] [] [] 7) [(.normal, (.mk [(4, (.sc .bool))] [] [] 7)), (.ret, (.mk [(4, (.sc .bool))] [] [] 7))]))]) 3 200 22 [.sc .sl (.var 0 []), .sc .sl (.var 1 [])] 2 = some ⟨[(zz65, (.sc .bool (.lb false))), ((.not (.bin .eql (.int .i64) (.var 2 []) (.li 0))), (.sc .bool (.var 4 []))), ((.lb true), (.sc .bool (.lb true)))],
 [],
 [(.mk [(zz65, false)] 2 2 [(.sc .bool (.lb false)), (.sc (.int .i64) (.li 0))] zz76 [(zz126, (.row (.var 0 []) (.var 3 []) zz45)), (zz126, (.row (.var 1 []) (.var 3 []) zz94))] [] [1, 1] [(.var 0 []), (.var 1 [])])]⟩ := by kernel_rfl
theorem pc_ref08_Same (x0 : List GKey) (x1 : List GKey) : PC Try.prog 22 [(.sl (List.map GKey.enc x0) false), (.sl (List.map GKey.enc x1) false)] (.p (.bool (ref08_Same x0 x1))) := pc_bnd fun hb =>
 have hb0 : x0.length ≤ 4294967296 := by have := hb.1.1; simpa using this
 have hb1 : x1.length ≤ 4294967296 := by have := hb.2.1.1; simpa using this
 let r2 : Bool × Bool × Bool := ref08_Same_l2 x0 x1 (x0.length + 1) false 0
 mk_pcXIL (ρ := [(.sl (List.map GKey.enc x0) false), (.sl (List.map GKey.enc x1) false), (.p (.int .i64 (selB r2.1))), (.p (.bool r2.2.1)), (.p (.bool r2.2.2))]) hmix xBase_ok iBase_ok e_ref08_Same (fzc (fzs GKey.fzL _) (fzc (fzs GKey.fzL _) (fzc rfl (fzc rfl (fzc rfl (fzn))))))
  (sn)
  (ll_cons (lo_mk2 (x0.length + 1) r2.1 [(.p (.bool r2.2.1))] [(.p (.bool r2.2.2))] rfl (fun h hb => lp_ref08_Same_l2 x0 x1 (len_of (f := GKey.enc) (l := x0) (hb _ (List.mem_of_getElem? (i := 0) rfl))) (len_of (f := GKey.enc) (l := x1) (hb _ (List.mem_of_getElem? (i := 1) rfl)))  (x0.length + 1) (false) (0) (by have a0 : (mLen GKey.enc x0) = (mLen GKey.enc x1) := iNe_f.1 (h.at 0 rfl); simp only [lens] at a0; (omega)) (by have a0 : (mLen GKey.enc x0) = (mLen GKey.enc x1) := iNe_f.1 (h.at 0 rfl); simp only [lens] at a0; omega)) rfl rfl rfl)
  (ll_nil))
  rfl (selE (fun r => .p (.bool r)) rfl rfl (selE (fun r => .p (.bool r)) rfl rfl (selL rfl)))
def rk_law08_KeyOrder_l6 (r : List GKey) : Nat × List AV := (0, [(.sl (List.map GKey.enc r) false)])
theorem lp_law08_KeyOrder_l6 (x0 : List GKey) (v1 : List GKey) (v2 : List GKey) (v3 : List GKey) (v4 : List GKey) (v5 : Bool) (hl0 : x0.length ≤ 4294967296) (hl1 : v1.length ≤ 4294967296) (hl2 : v3.length ≤ 4294967296) (hl3 : v4.length ≤ 4294967296) : ∀ (n : Nat) (u6 : Int) (u7 : List GKey), (0 ≤ u6 ∧ u7.length = v3.length) → ((v3.length : Int) - u6).toNat < n → RunN (fun σ => SidesOk Try.prog σ [(zz66, (.tm zz84)),
  (zz66, (.st (.var 7 []) (.var 6 []) 0 zz96 (.var 8 [])))] ∧ LoL Try.prog [] σ)
  zz86
  [(.sl (List.map GKey.enc x0) false), (.sl (List.map GKey.enc v1) false), (.sl (List.map GKey.enc v2) false), (.sl (List.map GKey.enc v3) false), (.sl (List.map GKey.enc v4) false), (.p (.bool v5))] 2 n [(.p (.int .i64 u6)), (.sl (List.map GKey.enc u7) false)] (rk_law08_KeyOrder_l6 (law08_KeyOrder_l6 v3 n u6 u7)).1 (rk_law08_KeyOrder_l6 (law08_KeyOrder_l6 v3 n u6 u7)).2
 | 0, u6, u7, hi, hm => absurd hm (Nat.not_lt_zero _)
 | n + 1, u6, u7, hi, hm =>
  let v8 : List GKey := u7.set (u6 : Int).toNat (GKey.mk [55, 55] 0)
  rn_mk (r := rk_law08_KeyOrder_l6 (law08_KeyOrder_l6 v3 (n + 1) u6 u7)) [(.sl (List.map GKey.enc v8) false)] [(.sl (List.map GKey.enc x0) false), (.sl (List.map GKey.enc v1) false), (.sl (List.map GKey.enc v2) false), (.sl (List.map GKey.enc v3) false), (.sl (List.map GKey.enc v4) false), (.p (.bool v5)), (.p (.int .i64 u6)), (.sl (List.map GKey.enc u7) false), (.sl (List.map GKey.enc v8) false)] rfl rfl (fzc (fzs GKey.fzL _) (fzc (fzs GKey.fzL _) (fzc (fzs GKey.fzL _) (fzc (fzs GKey.fzL _) (fzc (fzs GKey.fzL _) (fzc rfl (fzc rfl (fzc (fzs GKey.fzL _) (fzc (fzs GKey.fzL _) (fzn)))))))))) ⟨SidesC.ok (sc (fun h => decide_eq_true (p := (0 : Int) ≤ u6) (by have a0 : u6 < (mLen GKey.enc v3) := of_decide_eq_true (h.at 0 rfl); have a2 : ¬ (mLen GKey.enc x0) > 400 := of_decide_eq_false (h.at 2 rfl); simp only [lens] at a0 a2; omega))
   (sc (fun h => st_side (off := 0) (cells := denL _ zz96) (f := GKey.enc) (l := u7) (i := u6) (n := 2) (GKey.mk [55, 55] 0) (by have a0 : u6 < (mLen GKey.enc v3) := of_decide_eq_true (h.at 0 rfl); have a2 : ¬ (mLen GKey.enc x0) > 400 := of_decide_eq_false (h.at 2 rfl); simp only [lens] at a0 a2; omega) (by have a0 : u6 < (mLen GKey.enc v3) := of_decide_eq_true (h.at 0 rfl); have a2 : ¬ (mLen GKey.enc x0) > 400 := of_decide_eq_false (h.at 2 rfl); simp only [lens] at a0 a2; omega) (fun _ => rfl) rfl rfl)
   (sn))),
   ll_nil⟩
   (rn_cons rk_law08_KeyOrder_l6 (c := (!(decide ((u6 : Int) < (mLen GKey.enc v3))))) rfl (fun hc0 => rn_exit rfl rfl) (fun hc0 => rn_last (rn_go rfl (lp_law08_KeyOrder_l6 x0 v1 v2 v3 v4 v5 hl0 hl1 hl2 hl3 n ((iAdd .i64 u6 1)) (v8) (by have g0_0 : u6 < (mLen GKey.enc v3) := of_decide_eq_true (bn_f hc0); simp only [lens] at g0_0; (try have ia0 : (iAdd .i64 u6 1) = u6 + 1 := iAddC (by first | omega | (simp only [lens]; omega)) (by omega)); refine ⟨?_, ?_⟩ <;> ((simp only [lens, v8] at * <;> omega))) (by have g0_0 : u6 < (mLen GKey.enc v3) := of_decide_eq_true (bn_f hc0); simp only [lens] at g0_0; (try have ia0 : (iAdd .i64 u6 1) = u6 + 1 := iAddC (by first | omega | (simp only [lens]; omega)) (by omega)); omega)))))
theorem e_law08_KeyOrder : sFnI Try.prog xBase iBase (mdW [20] mdI) (fcI kA 4 [6] [(0, (.mk [0, 2, 3, 4, 5] (.mk [(6, (.sc (.int .i64)))] [] [(18, 2)] 28) [(.normal, (.mk [] [] [(18, 2)] 28))]))]) 3 200 4 [.sc .sl (.var 0 [])] 1 = some ⟨[(zz15, (.sc .bool (.lb true))), ((.not (.var 5 [])), (.sc .bool (.lb false))), ((.lb true), (.sc .bool (.and zz78 (.var 11 []))))],
 [([(zz15, false)], (.rok 2 (.var 0 []))),
 ([(zz15, false)], (.len2 0 (.var 0 []))),
 ([(zz15, false)], (.app 2 (.var 0 []) [zz96] (.var 1 []))),
 ([(zz15, false)], (.tm zz37)),
 ([(zz15, false)], (.tm zz37)),
 ([(zz15, false)], (.tm zz135)),
 ([(zz15, false)], (.sub 2 (.var 1 []) none (some (.rlen (.var 0 []))) (.var 2 []))),
 ([(zz15, false)], (.callo 20 [(.sc .sl (.var 2 []))] (.sc .sl (.var 3 [])) [] 2 true)),
 ([(zz15, false)], (.call 21 [(.sc .sl (.var 0 []))] (.sc .sl (.var 4 [])))),
 ([(zz15, false)], (.call 22 [(.sc .sl (.var 3 [])), (.sc .sl (.var 4 []))] (.sc .bool (.var 5 [])))),
 (zz93, (.tm zz37)),
 (zz93, (.tm zz37)),
 (zz93, (.tm zz135)),
 (zz93, (.sub 2 (.var 1 []) none (some (.rlen (.var 0 []))) (.var 7 []))),
 (zz93, (.call 22 [(.sc .sl (.var 7 [])), (.sc .sl (.var 0 []))] (.sc .bool (.var 8 [])))),
 (zz111, (.tm zz37)),
 (zz111, (.tm (.bin .lss (.int .i64) (.rlen (.var 0 [])) (.rlen (.var 1 []))))),
 (zz111, (.rd (true, 2) (.var 1 []) (.rlen (.var 0 [])) 0 (.agg zz54))),
 ([(zz78, true), ((.var 5 []), true), (zz15, false)], (.call 20 [(.sc .sl (.var 0 []))] (.sc .sl (.var 10 [])))),
 ([(zz78, true), ((.var 5 []), true), (zz15, false)], (.call 22 [(.sc .sl (.var 10 [])), (.sc .sl (.var 4 []))] (.sc .bool (.var 11 []))))],
 [(.mk zz93 6 2 [(.sc (.int .i64) (.li 0)), (.sc .sl (.var 3 []))] zz86 [(zz66, (.tm zz84)), (zz66, (.st (.var 7 []) (.var 6 []) 0 zz96 (.var 8 [])))] [] [1] [(.var 0 []), (.var 1 []), (.var 3 []), (.var 4 [])])]⟩ := by kernel_rfl
theorem pc_law08_KeyOrder (x0 : List GKey) : PC Try.prog 4 [(.sl (List.map GKey.enc x0) false)] (.p (.bool (law08_KeyOrder x0))) := pc_bnd fun hb =>
 have hb0 : x0.length ≤ 4294967296 := by have := hb.1.1; simpa using this
 let v1 : List GKey := x0 ++ [(GKey.mk [55, 55] 0)]
 let v2 : List GKey := (v1.drop (0)).take (((mLen GKey.enc x0) : Int).toNat - 0)
 let v3 : List GKey := key_Order v2
 let v4 : List GKey := ref08_Order x0
 let v5 : Bool := ref08_Same v3 v4
 let r6 : List GKey := law08_KeyOrder_l6 v3 (v3.length + 1) 0 v3
 let v7 : List GKey := (v1.drop (0)).take (((mLen GKey.enc x0) : Int).toNat - 0)
 let v8 : Bool := ref08_Same v7 x0
 let v9 : GKey := v1.getD ((mLen GKey.enc x0) : Int).toNat default
 let v10 : List GKey := key_Order x0
 let v11 : Bool := ref08_Same v10 v4
 mk_pcXIL (ρ := [(.sl (List.map GKey.enc x0) false), (.sl (List.map GKey.enc v1) false), (.sl (List.map GKey.enc v2) false), (.sl (List.map GKey.enc v3) false), (.sl (List.map GKey.enc v4) false), (.p (.bool v5)), (.sl (List.map GKey.enc r6) false), (.sl (List.map GKey.enc v7) false), (.p (.bool v8)), (GKey.av v9), (.sl (List.map GKey.enc v10) false), (.p (.bool v11))]) hmix xBase_ok iBase_ok e_law08_KeyOrder (fzc (fzs GKey.fzL _) (fzc (fzs GKey.fzL _) (fzc (fzs GKey.fzL _) (fzc (fzs GKey.fzL _) (fzc (fzs GKey.fzL _) (fzc rfl (fzc (fzs GKey.fzL _) (fzc (fzs GKey.fzL _) (fzc rfl (fzc (GKey.fz _) (fzc (fzs GKey.fzL _) (fzc rfl (fzn)))))))))))))
  (sc (fun _ => GKey.rok _)
  (sc (fun h => len2_side (f := GKey.enc) (y := x0) (by have a0 : ¬ (mLen GKey.enc x0) > 400 := of_decide_eq_false (h.at 0 rfl); simp only [lens] at a0; omega))
  (sc (fun h => app_side (l := x0) (r := [(GKey.mk [55, 55] 0)]) (GKey.rok _) (by have a0 : ¬ (mLen GKey.enc x0) > 400 := of_decide_eq_false (h.at 0 rfl); simp only [lens] at a0; (simp [lens, v1, v2, v7, *] <;> omega)) rfl)
  (sc (fun h => decide_eq_true (p := (0 : Int) ≤ (mLen GKey.enc x0)) (by have a0 : ¬ (mLen GKey.enc x0) > 400 := of_decide_eq_false (h.at 0 rfl); simp only [lens] at a0; (simp only [lens, v1, v2, v7] <;> omega)))
  (sc (fun h => decide_eq_true (p := (0 : Int) ≤ (mLen GKey.enc x0)) (by have a0 : ¬ (mLen GKey.enc x0) > 400 := of_decide_eq_false (h.at 0 rfl); simp only [lens] at a0; (simp only [lens, v1, v2, v7] <;> omega)))
  (sc (fun h => decide_eq_true (p := ((mLen GKey.enc x0) : Int) ≤ (mLen GKey.enc v1)) (by have a0 : ¬ (mLen GKey.enc x0) > 400 := of_decide_eq_false (h.at 0 rfl); simp only [lens] at a0; (simp only [lens, v1, v2, v7] <;> omega)))
  (sc (fun h => sub_hi (hi := (mLen GKey.enc x0)) (GKey.rok _) (by have a0 : ¬ (mLen GKey.enc x0) > 400 := of_decide_eq_false (h.at 0 rfl); simp only [lens] at a0; (simp only [lens, v1, v2, v7] <;> omega)) (by have a0 : ¬ (mLen GKey.enc x0) > 400 := of_decide_eq_false (h.at 0 rfl); simp only [lens] at a0; (simp only [lens, v1, v2, v7] <;> omega)))
  (sc (fun _ => ⟨pco_key_Order v2, fun _ => flat_rows (fun _ => rfl)⟩)
  (sc (fun h => pc_ref08_Order (x0) (by have a0 : ¬ (mLen GKey.enc x0) > 400 := of_decide_eq_false (h.at 0 rfl); simp only [lens] at a0; omega))
  (sc (fun _ => pc_ref08_Same (v3) (v4))
  (sc (fun h => decide_eq_true (p := (0 : Int) ≤ (mLen GKey.enc x0)) (by have a1 : ¬ (mLen GKey.enc x0) > 400 := of_decide_eq_false (h.at 1 rfl); simp only [lens] at a1; (simp only [lens, v1, v2, v7] <;> omega)))
  (sc (fun h => decide_eq_true (p := (0 : Int) ≤ (mLen GKey.enc x0)) (by have a1 : ¬ (mLen GKey.enc x0) > 400 := of_decide_eq_false (h.at 1 rfl); simp only [lens] at a1; (simp only [lens, v1, v2, v7] <;> omega)))
  (sc (fun h => decide_eq_true (p := ((mLen GKey.enc x0) : Int) ≤ (mLen GKey.enc v1)) (by have a1 : ¬ (mLen GKey.enc x0) > 400 := of_decide_eq_false (h.at 1 rfl); simp only [lens] at a1; (simp only [lens, v1, v2, v7] <;> omega)))
  (sc (fun h => sub_hi (hi := (mLen GKey.enc x0)) (GKey.rok _) (by have a1 : ¬ (mLen GKey.enc x0) > 400 := of_decide_eq_false (h.at 1 rfl); simp only [lens] at a1; (simp only [lens, v1, v2, v7] <;> omega)) (by have a1 : ¬ (mLen GKey.enc x0) > 400 := of_decide_eq_false (h.at 1 rfl); simp only [lens] at a1; (simp only [lens, v1, v2, v7] <;> omega)))
  (sc (fun _ => pc_ref08_Same (v7) (x0))
  (sc (fun h => decide_eq_true (p := (0 : Int) ≤ (mLen GKey.enc x0)) (by have a2 : ¬ (mLen GKey.enc x0) > 400 := of_decide_eq_false (h.at 2 rfl); simp only [lens] at a2; (simp only [lens, v1, v2, v7] <;> omega)))
  (sc (fun h => decide_eq_true (p := ((mLen GKey.enc x0) : Int) < (mLen GKey.enc v1)) (by have a2 : ¬ (mLen GKey.enc x0) > 400 := of_decide_eq_false (h.at 2 rfl); simp only [lens] at a2; (simp only [lens, v1, v2, v7] <;> omega)))
  (sc (fun h => rd_side (f := GKey.enc) (l := v1) (i := (mLen GKey.enc x0)) (n := 2) (by have a2 : ¬ (mLen GKey.enc x0) > 400 := of_decide_eq_false (h.at 2 rfl); simp only [lens] at a2; (simp only [lens, v1, v2, v7] <;> omega)) (by have a2 : ¬ (mLen GKey.enc x0) > 400 := of_decide_eq_false (h.at 2 rfl); simp only [lens] at a2; (simp only [lens, v1, v2, v7] <;> omega)) (fun _ => rfl) (by first | exact ⟨Nat.le_of_ble_eq_true rfl, rfl⟩ | exact rfl))
  (sc (fun _ => pc_key_Order (x0))
  (sc (fun _ => pc_ref08_Same (v10) (v4))
  (sn)))))))))))))))))))))
  (ll_cons (lo_mk1 (v3.length + 1) [(.sl (List.map GKey.enc r6) false)] rfl (fun h hb => lp_law08_KeyOrder_l6 x0 v1 v2 v3 v4 v5 (len_of (f := GKey.enc) (l := x0) (hb _ (List.mem_of_getElem? (i := 0) rfl))) (len_of (f := GKey.enc) (l := v1) (hb _ (List.mem_of_getElem? (i := 1) rfl))) (len_of (f := GKey.enc) (l := v3) (hb _ (List.mem_of_getElem? (i := 2) rfl))) (len_of (f := GKey.enc) (l := v4) (hb _ (List.mem_of_getElem? (i := 3) rfl)))  (v3.length + 1) (0) (v3) (by have a1 : ¬ (mLen GKey.enc x0) > 400 := of_decide_eq_false (h.at 1 rfl); simp only [lens] at a1; refine ⟨?_, ?_⟩ <;> (omega)) (by have a1 : ¬ (mLen GKey.enc x0) > 400 := of_decide_eq_false (h.at 1 rfl); simp only [lens] at a1; omega)) rfl)
  (ll_nil))
  rfl (selE (fun r => .p (.bool r)) rfl rfl (selE (fun r => .p (.bool r)) rfl rfl (selL rfl)))
end Go.Fw
end
section
set_option linter.unusedVariables false
set_option linter.unusedSimpArgs false
set_option linter.unusedSectionVars false
namespace Go.Fw
open Go.Proofs
set_option maxRecDepth 100000
theorem rd_GKey : Rd Try.prog 24 GKey.enc GKey.wf :=
 (rd_struct Try.underlying24 (by kernel_rfl) (rdF_cons (m := 1) rfl (by kernel_rfl) (rd_str Try.underlying9) (rdF_cons (m := 1) rfl (by kernel_rfl) (rd_int Try.underlying3) (rdF_nil)))).to (fun x => GKey.mk x.1 x.2.1) (fun _ => rfl) (fun _ h => ⟨h.1, h.2.1⟩)
end Go.Fw
end
section
set_option linter.unusedVariables false
set_option linter.unusedSimpArgs false
set_option linter.unusedSectionVars false
namespace Go.Fw
set_option linter.unusedVariables false
set_option linter.unusedSimpArgs false
theorem mem_gt {P A T : List GKey} {x : GKey} (hx : x ∈ A) : ∃ c : Int, (P.length : Int) ≤ c ∧ c < P.length + A.length ∧ gt (P ++ A ++ T) c = x := by
 obtain ⟨A1, A2, rfl⟩ := List.append_of_mem hx
 refine ⟨P.length + A1.length, by omega, by simp; omega, ?_⟩
 show (P ++ (A1 ++ x :: A2) ++ T).getD _ default = x
 rw [show P ++ (A1 ++ x :: A2) ++ T = (P ++ A1) ++ x :: (A2 ++ T) by simp]
 exact at_mid (by simp)
theorem gt_mem {P A T : List GKey} {c : Int} (h0 : (P.length : Int) ≤ c) (h1 : c < P.length + A.length) : ∃ A1 A2, A = A1 ++ gt (P ++ A ++ T) c :: A2 ∧ (A1.length : Int) = c - P.length := by
 refine ⟨A.take (c - P.length).toNat, A.drop ((c - P.length).toNat + 1), ?_, by simp; omega⟩
 have hk : (c - P.length).toNat < A.length := by omega
 have e : gt (P ++ A ++ T) c = A.getD (c - P.length).toNat default := by
  show (P ++ A ++ T).getD c.toNat default = _
  simp only [List.getD_eq_getElem?_getD, List.append_assoc]
  rw [List.getElem?_append_right (by omega), List.getElem?_append_left (by omega), show c.toNat - P.length = (c - P.length).toNat by omega]
 rw [e, ← q_drop A _ hk, List.take_append_drop]
theorem seg_srt {P A T : List GKey} (hs : Srt A) {c d : Int} (h0 : (P.length : Int) ≤ c) (h1 : c ≤ d) (h2 : d < P.length + A.length) : ltK (gt (P ++ A ++ T) d) (gt (P ++ A ++ T) c) = false := by
 by_cases hcd : c = d
 ·subst hcd; rw [ltK_f]; omega
 obtain ⟨A1, A2, q1, q2⟩ := gt_mem (T := T) h0 (by omega : c < P.length + A.length)
 generalize gt (P ++ A ++ T) c = x at *
 have e : P ++ A ++ T = (P ++ (A1 ++ [x])) ++ A2 ++ T := by rw [q1]; simp
 rw [e]
 obtain ⟨B1, B2, r1, r2⟩ := gt_mem (P := P ++ (A1 ++ [x])) (A := A2) (T := T) (c := d) (by simp; omega) (by rw [q1] at h2; simp at h2 ⊢; omega)
 generalize gt ((P ++ (A1 ++ [x])) ++ A2 ++ T) d = y at *
 rw [q1] at hs
 have := (List.pairwise_append.1 hs).2.1
 have := (List.pairwise_cons.1 this).1 y (by rw [r1]; simp)
 exact this
theorem srt_app {A B : List GKey} (ha : Srt A) (hb : Srt B) (h : ∀ x ∈ A, ∀ y ∈ B, ltK y x = false) : Srt (A ++ B) := List.pairwise_append.2 ⟨ha, hb, h⟩
theorem split_at {A : List GKey} {k : Int} (h0 : 0 ≤ k) (h1 : k ≤ A.length) : ∃ A1 A2, A = A1 ++ A2 ∧ (A1.length : Int) = k :=
 ⟨A.take k.toNat, A.drop k.toNat, (List.take_append_drop _ _).symm, by simp; omega⟩
theorem cut_ok {P A B T : List GKey} {a m b mid lo hi r : Int} {k : Nat} (ha : a = P.length) (hm : m = a + A.length) (hb : b = m + B.length) (hA : Srt A) (hB : Srt B) (hmid : mid = (a + b) / 2)
  (hlo : lo = if m > mid then mid + m - b else a) (hhi : hi = if m > mid then mid else m) (hA0 : 0 < A.length) (hB0 : 0 < B.length)
  (hr : r = bs (fun c => !ltK (gt (P ++ A ++ B ++ T) (mid + m - 1 - c)) (gt (P ++ A ++ B ++ T) c)) k lo hi) (hk : b - a < k) :
  ∃ A1 A2 B1 B2, A = A1 ++ A2 ∧ B = B1 ++ B2 ∧ r = a + A1.length ∧ mid - r = B1.length ∧ (∀ x ∈ A1, ∀ y ∈ B2, ltK y x = false) ∧ (∀ x ∈ A2, ∀ y ∈ B1, ltK y x = true) := by
 have hlh : lo ≤ hi := by split at hlo <;> split at hhi <;> omega
 have bd := bs_bd (q := fun c => !ltK (gt (P ++ A ++ B ++ T) (mid + m - 1 - c)) (gt (P ++ A ++ B ++ T) c)) k hlh
 rw [← hr] at bd
 have eA : ∀ c d : Int, a ≤ c → c ≤ d → d < m → ltK (gt (P ++ A ++ B ++ T) d) (gt (P ++ A ++ B ++ T) c) = false := by
  intro c d h1 h2 h3
  have := seg_srt (P := P) (T := B ++ T) hA (c := c) (d := d) (by omega) h2 (by omega)
  rw [show P ++ A ++ B ++ T = P ++ A ++ (B ++ T) by simp]; exact this
 have eB : ∀ c d : Int, m ≤ c → c ≤ d → d < b → ltK (gt (P ++ A ++ B ++ T) d) (gt (P ++ A ++ B ++ T) c) = false := by
  intro c d h1 h2 h3
  exact seg_srt (P := P ++ A) (T := T) hB (c := c) (d := d) (by simp; omega) h2 (by simp; omega)
 obtain ⟨h1, h2⟩ := bs_ok (q := fun c => !ltK (gt (P ++ A ++ B ++ T) (mid + m - 1 - c)) (gt (P ++ A ++ B ++ T) c)) k hlh (by split at hlo <;> split at hhi <;> omega) (by
  intro c d h1 h2 h3 h4
  simp only [Bool.not_eq_true'] at h4 ⊢
  have q1 := eA c d (by split at hlo <;> omega) h2 (by split at hhi <;> omega)
  have q2 := eB (mid + m - 1 - d) (mid + m - 1 - c) (by split at hhi <;> omega) (by omega) (by split at hlo <;> omega)
  exact le_trans' q1 (le_trans' h4 q2))
 rw [← hr] at h1 h2
 have b1 : a ≤ r := by split at hlo <;> omega
 have b2 : r ≤ m := by split at hhi <;> omega
 have b3 : r ≤ mid := by split at hhi <;> omega
 have b4 : mid + m - r ≤ b := by split at hlo <;> omega
 obtain ⟨A1, A2, rfl, l1⟩ := split_at (A := A) (k := r - a) (by omega) (by omega)
 obtain ⟨B1, B2, rfl, l2⟩ := split_at (A := B) (k := mid - r) (by omega) (by omega)
 simp only [List.length_append] at *
 refine ⟨A1, A2, B1, B2, rfl, rfl, by omega, by omega, fun x hx y hy => ?_, fun x hx y hy => ?_⟩
 ·obtain ⟨c, c0, c1, c2⟩ := mem_gt (P := P) (T := A2 ++ (B1 ++ B2) ++ T) hx
  obtain ⟨d, d0, d1, d2⟩ := mem_gt (P := P ++ (A1 ++ A2) ++ B1) (T := T) hy
  rw [show P ++ A1 ++ (A2 ++ (B1 ++ B2) ++ T) = P ++ (A1 ++ A2) ++ (B1 ++ B2) ++ T by simp] at c2
  rw [show P ++ (A1 ++ A2) ++ B1 ++ B2 ++ T = P ++ (A1 ++ A2) ++ (B1 ++ B2) ++ T by simp] at d2
  simp only [List.length_append] at d0 d1
  have q := h1 (r - 1) (by split at hlo <;> omega) (by omega)
  simp only [Bool.not_eq_true'] at q
  have q1 := eA c (r - 1) (by omega) (by omega) (by omega)
  have q2 := eB (mid + m - 1 - (r - 1)) d (by omega) (by omega) (by omega)
  rw [← c2, ← d2]
  exact le_trans' q1 (le_trans' q q2)
 ·obtain ⟨c, c0, c1, c2⟩ := mem_gt (P := P ++ A1) (T := (B1 ++ B2) ++ T) hx
  obtain ⟨d, d0, d1, d2⟩ := mem_gt (P := P ++ (A1 ++ A2)) (T := B2 ++ T) hy
  rw [show P ++ A1 ++ A2 ++ (B1 ++ B2 ++ T) = P ++ (A1 ++ A2) ++ (B1 ++ B2) ++ T by simp] at c2
  rw [show P ++ (A1 ++ A2) ++ B1 ++ (B2 ++ T) = P ++ (A1 ++ A2) ++ (B1 ++ B2) ++ T by simp] at d2
  simp only [List.length_append] at c0 c1 d0 d1
  have q := h2 r (by omega) (by split at hhi <;> omega)
  simp only [Bool.not_eq_false'] at q
  have q1 := eA r c (by omega) (by omega) (by omega)
  have q2 := eB d (mid + m - 1 - r) (by omega) (by omega) (by omega)
  rw [← c2, ← d2]
  exact lt_of_lt_of_le' (lt_of_le_of_lt' q2 q) q1
theorem one1 {A : List GKey} (h : A.length = 1) : ∃ x, A = [x] := by
 match A, h with
 | [x], _ => exact ⟨x, rfl⟩
theorem one_up {P B T : List GKey} {x : GKey} {a m b : Int} (ha : a = P.length) (hm : m = a + 1) (hb : b = m + B.length) (hB : Srt B) (hlim : b < 4294967296) :
  ∃ C, sM_l5 (sM_l4 (P ++ [x] ++ B ++ T) a ((b - m).toNat + 1) m b) ((iSub .i64 (sM_l4 (P ++ [x] ++ B ++ T) a ((b - m).toNat + 1) m b) 1).toNat + 1) a (P ++ [x] ++ B ++ T) = P ++ C ++ T ∧ Srt C ∧ Eqp C ([x] ++ B) := by
 rw [l4_bs _ (by omega) (by omega) (by omega)]
 have gx : gt (P ++ [x] ++ B ++ T) a = x := by
  show (P ++ [x] ++ B ++ T).getD _ default = x
  rw [show P ++ [x] ++ B ++ T = P ++ x :: (B ++ T) by simp]; exact at_mid ha
 rw [gx]
 have eB : ∀ c d : Int, m ≤ c → c ≤ d → d < b → ltK (gt (P ++ [x] ++ B ++ T) d) (gt (P ++ [x] ++ B ++ T) c) = false := by
  intro c d h1 h2 h3
  exact seg_srt (P := P ++ [x]) (T := T) hB (c := c) (d := d) (by simp; omega) h2 (by simp; omega)
 generalize hr : bs (fun c => ltK (gt (P ++ [x] ++ B ++ T) c) x) ((b - m).toNat + 1) m b = r
 have bd := bs_bd (q := fun c => ltK (gt (P ++ [x] ++ B ++ T) c) x) ((b - m).toNat + 1) (i := m) (j := b) (by omega)
 obtain ⟨h1, h2⟩ := bs_ok (q := fun c => ltK (gt (P ++ [x] ++ B ++ T) c) x) ((b - m).toNat + 1) (i := m) (j := b) (by omega) (by omega) (fun c d h1 h2 h3 h4 => lt_of_le_of_lt' (eB c d h1 h2 h3) h4)
 rw [hr] at bd h1 h2
 obtain ⟨B1, B2, rfl, l1⟩ := split_at (A := B) (k := r - m) (by omega) (by omega)
 have m1 : ∀ y ∈ B1, ltK y x = true := by
  intro y hy
  obtain ⟨c, c0, c1, c2⟩ := mem_gt (P := P ++ [x]) (T := B2 ++ T) hy
  rw [← c2, show P ++ [x] ++ B1 ++ (B2 ++ T) = P ++ [x] ++ (B1 ++ B2) ++ T by simp]
  exact h1 c (by simp at c0; omega) (by simp at c1; omega)
 have m2 : ∀ y ∈ B2, ltK y x = false := by
  intro y hy
  obtain ⟨c, c0, c1, c2⟩ := mem_gt (P := P ++ [x] ++ B1) (T := T) hy
  rw [← c2, show P ++ [x] ++ B1 ++ B2 ++ T = P ++ [x] ++ (B1 ++ B2) ++ T by simp]
  simp at c0 c1 hb
  exact h2 c (by omega) (by omega)
 have e1 : iSub .i64 r 1 = r - 1 := iSubC (by omega) (by omega)
 rw [e1, show P ++ [x] ++ (B1 ++ B2) ++ T = P ++ x :: (B1 ++ (B2 ++ T)) by simp, l5_ok _ P B1 (B2 ++ T) x a ha (by omega) (by omega) (by simp at hb; omega)]
 obtain ⟨s1, s2, s3⟩ := List.pairwise_append.1 hB
 refine ⟨B1 ++ x :: B2, by simp, List.pairwise_append.2 ⟨s1, List.pairwise_cons.2 ⟨m2, s2⟩, fun y hy z hz => ?_⟩, ?_⟩
 ·cases hz with
  | head => exact le_of_lt' (m1 y hy)
  | tail _ hz => exact s3 y hy z hz
 ·rw [show B1 ++ x :: B2 = (B1 ++ [x]) ++ B2 by simp, ← List.append_assoc]
  exact Eqp.app (Eqp.symm (Eqp.swap fun z hz y hy => by simp at hz; subst hz; exact m1 y hy)) (Eqp.refl _)
theorem one_down {P A T : List GKey} {y : GKey} {a m : Int} (ha : a = P.length) (hm : m = a + A.length) (hA : Srt A) (hlim : m + 1 < 4294967296) :
  ∃ C, sM_l7 (sM_l6 (P ++ A ++ [y] ++ T) m ((m - a).toNat + 1) a m) ((m - a).toNat + 1) m (P ++ A ++ [y] ++ T) = P ++ C ++ T ∧ Srt C ∧ Eqp C (A ++ [y]) := by
 rw [l6_bs _ (by omega) (by omega) (by omega)]
 have gx : gt (P ++ A ++ [y] ++ T) m = y := by
  show (P ++ A ++ [y] ++ T).getD _ default = y
  rw [show P ++ A ++ [y] ++ T = (P ++ A) ++ y :: T by simp]; exact at_mid (by simp; omega)
 rw [gx]
 have eA : ∀ c d : Int, a ≤ c → c ≤ d → d < m → ltK (gt (P ++ A ++ [y] ++ T) d) (gt (P ++ A ++ [y] ++ T) c) = false := by
  intro c d h1 h2 h3
  rw [show P ++ A ++ [y] ++ T = P ++ A ++ ([y] ++ T) by simp]
  exact seg_srt (P := P) (T := [y] ++ T) hA (c := c) (d := d) (by omega) h2 (by omega)
 generalize hr : bs (fun c => !ltK y (gt (P ++ A ++ [y] ++ T) c)) ((m - a).toNat + 1) a m = r
 have bd := bs_bd (q := fun c => !ltK y (gt (P ++ A ++ [y] ++ T) c)) ((m - a).toNat + 1) (i := a) (j := m) (by omega)
 obtain ⟨h1, h2⟩ := bs_ok (q := fun c => !ltK y (gt (P ++ A ++ [y] ++ T) c)) ((m - a).toNat + 1) (i := a) (j := m) (by omega) (by omega) (fun c d h1 h2 h3 h4 => by
  simp only [Bool.not_eq_true'] at h4 ⊢
  exact le_trans' (eA c d h1 h2 h3) h4)
 rw [hr] at bd h1 h2
 obtain ⟨A1, A2, rfl, l1⟩ := split_at (A := A) (k := r - a) (by omega) (by omega)
 simp only [List.length_append] at hm
 have m1 : ∀ z ∈ A1, ltK y z = false := by
  intro z hz
  obtain ⟨c, c0, c1, c2⟩ := mem_gt (P := P) (T := A2 ++ [y] ++ T) hz
  rw [← c2, show P ++ A1 ++ (A2 ++ [y] ++ T) = P ++ (A1 ++ A2) ++ [y] ++ T by simp]
  have := h1 c (by omega) (by omega)
  simpa using this
 have m2 : ∀ z ∈ A2, ltK y z = true := by
  intro z hz
  obtain ⟨c, c0, c1, c2⟩ := mem_gt (P := P ++ A1) (T := [y] ++ T) hz
  rw [← c2, show P ++ A1 ++ A2 ++ ([y] ++ T) = P ++ (A1 ++ A2) ++ [y] ++ T by simp]
  simp only [List.length_append] at c0 c1
  have := h2 c (by omega) (by omega)
  simpa using this
 rw [show P ++ (A1 ++ A2) ++ [y] ++ T = (P ++ A1) ++ A2 ++ y :: T by simp, l7_ok _ (P ++ A1) A2 T y m (by simp; omega) (by simp; omega) (by omega) (by simp; omega)]
 refine ⟨A1 ++ y :: A2, by simp, ins_srt hA m1 m2, ins_eqp m2⟩
theorem nine {α : Type} {c1 c2 c3 : Bool} {x v9 : α} {M1 M2 : α → α} :
  (bif c1 && (c2 && c3) then M2 (M1 v9) else bif c1 && c2 then M1 v9 else bif c1 && c3 then M2 v9 else bif c1 then v9 else bif c2 && c3 then M2 (M1 x) else bif c2 then M1 x else bif c3 then M2 x else x)
   = (bif c3 then M2 (bif c2 then M1 (bif c1 then v9 else x) else (bif c1 then v9 else x)) else (bif c2 then M1 (bif c1 then v9 else x) else (bif c1 then v9 else x))) := by
 cases c1 <;> cases c2 <;> cases c3 <;> rfl
theorem symMerge_ok : ∀ (k : Nat) (P A B T : List GKey) (a m b : Int), a = P.length → m = a + A.length → b = m + B.length → 0 < A.length → 0 < B.length → b - a ≤ k → 4 * b < 4294967296 → Srt A → Srt B →
  ∃ C, sM k (P ++ A ++ B ++ T) a m b = P ++ C ++ T ∧ Srt C ∧ Eqp C (A ++ B)
 | 0, P, A, B, T, a, m, b, ha, hm, hb, hA, hB, hk, hlim, sA, sB => by omega
 | k + 1, P, A, B, T, a, m, b, ha, hm, hb, hA, hB, hk, hlim, sA, sB => by
  unfold sM
  simp only [show IntKind.wrap .i64 (iShr .u64 (IntKind.wrap .u64 (iAdd .i64 a b)) 1) = (a + b) / 2 from midT_eq (by omega) (by omega) (by omega)]
  have e1 : iSub .i64 m a = m - a := iSubC (by omega) (by omega)
  have e2 : iSub .i64 b m = b - m := iSubC (by omega) (by omega)
  simp only [e1, e2]
  by_cases hA1 : A.length = 1
  ·obtain ⟨x, rfl⟩ := one1 hA1
   simp only [show iEq (m - a) 1 = true from by rw [qiEq]; exact decide_eq_true (by omega), cond_true]
   exact one_up ha (by simp at hm; omega) hb sB (by omega)
  simp only [show iEq (m - a) 1 = false from by rw [qiEq]; exact decide_eq_false (by omega), cond_false]
  by_cases hB1 : B.length = 1
  ·obtain ⟨y, rfl⟩ := one1 hB1
   simp only [show iEq (b - m) 1 = true from by rw [qiEq]; exact decide_eq_true (by omega), cond_true]
   exact one_down ha hm sA (by simp at hb; omega)
  simp only [show iEq (b - m) 1 = false from by rw [qiEq]; exact decide_eq_false (by omega), cond_false]
  have e3 : iAdd .i64 ((a + b) / 2) m = (a + b) / 2 + m := iAddC (by omega) (by omega)
  have e4 : iSub .i64 ((a + b) / 2 + m) b = (a + b) / 2 + m - b := iSubC (by omega) (by omega)
  simp only [e3, e4]
  generalize hlo : (bif decide (m > (a + b) / 2) then (a + b) / 2 + m - b else a) = lo
  generalize hhi : (bif decide (m > (a + b) / 2) then (a + b) / 2 else m) = hi
  have hlo' : lo = if m > (a + b) / 2 then (a + b) / 2 + m - b else a := by rw [← hlo]; simp only [Bool.cond_eq_ite, decide_eq_true_eq]
  have hhi' : hi = if m > (a + b) / 2 then (a + b) / 2 else m := by rw [← hhi]; simp only [Bool.cond_eq_ite, decide_eq_true_eq]
  rw [l8_bs (by omega) (by omega) (by omega) (by omega) (by omega) _ (by split at hlo' <;> omega) (by split at hlo' <;> split at hhi' <;> omega) (by split at hhi' <;> omega)]
  obtain ⟨A1, A2, B1, B2, rfl, rfl, q1, q2, q3, q4⟩ := cut_ok (P := P) (A := A) (B := B) (T := T) ha hm hb sA sB rfl hlo' hhi' hA hB rfl (by omega : b - a < (((b - a).toNat + 1 : Nat) : Int))
  generalize hr : bs (fun c => !ltK (gt (P ++ (A1 ++ A2) ++ (B1 ++ B2) ++ T) ((a + b) / 2 + m - 1 - c)) (gt (P ++ (A1 ++ A2) ++ (B1 ++ B2) ++ T) c)) ((b - a).toNat + 1) lo hi = r at *
  simp only [List.length_append] at *
  have e5 : iSub .i64 ((a + b) / 2 + m) r = (a + b) / 2 + m - r := iSubC (by omega) (by omega)
  simp only [e5]
  generalize hmid : (a + b) / 2 = mid at *
  rw [nine (M1 := fun l => sM k l a r mid) (M2 := fun l => sM k l mid (mid + m - r) b)]
  obtain ⟨sA1, sA2, sA3⟩ := List.pairwise_append.1 sA
  obtain ⟨sB1, sB2, sB3⟩ := List.pairwise_append.1 sB
  have w : (bif (decide (r < m) && decide (m < mid + m - r)) then sR (P ++ (A1 ++ A2) ++ (B1 ++ B2) ++ T) r m (mid + m - r) else P ++ (A1 ++ A2) ++ (B1 ++ B2) ++ T) = P ++ A1 ++ B1 ++ (A2 ++ B2 ++ T) := by
   by_cases h1 : r < m
   ·by_cases h2 : m < mid + m - r
    ·simp only [h1, h2, decide_true, Bool.true_and, cond_true]
     have := rotate_ok (P := P ++ A1) (A := A2) (B := B1) (T := B2 ++ T) (a := r) (m := m) (b := mid + m - r) (by simp; omega) (by omega) (by omega) (by omega) (by omega) (by simp; omega)
     rw [show P ++ (A1 ++ A2) ++ (B1 ++ B2) ++ T = P ++ A1 ++ A2 ++ B1 ++ (B2 ++ T) by simp, this]
     simp
    ·have : B1 = [] := List.length_eq_zero_iff.1 (by omega)
     subst this
     simp [h2]
   ·have : A2 = [] := List.length_eq_zero_iff.1 (by omega)
    subst this
    simp [h1]
  rw [w]
  have w2 : ∃ D, (bif (decide (a < r) && decide (r < mid)) then sM k (P ++ A1 ++ B1 ++ (A2 ++ B2 ++ T)) a r mid else P ++ A1 ++ B1 ++ (A2 ++ B2 ++ T)) = P ++ D ++ (A2 ++ B2 ++ T) ∧ Srt D ∧ Eqp D (A1 ++ B1) ∧ D.length = A1.length + B1.length := by
   by_cases h1 : a < r
   ·by_cases h2 : r < mid
    ·simp only [h1, h2, decide_true, Bool.true_and, cond_true]
     obtain ⟨C, c1, c2, c3⟩ := symMerge_ok k P A1 B1 (A2 ++ B2 ++ T) a r mid ha (by omega) (by omega) (by omega) (by omega) (by omega) (by omega) sA1 sB1
     refine ⟨C, c1, c2, c3, ?_⟩
     have := congrArg List.length c1
     rw [symMerge_len] at this
     simp at this
     omega
    ·have : B1 = [] := List.length_eq_zero_iff.1 (by omega)
     subst this
     exact ⟨A1, by simp [h2], sA1, by simpa using Eqp.refl _, by simp⟩
   ·have : A1 = [] := List.length_eq_zero_iff.1 (by omega)
    subst this
    exact ⟨B1, by simp [h1], sB1, by simpa using Eqp.refl _, by simp⟩
  obtain ⟨D, d1, d2, d3, d4⟩ := w2
  rw [d1]
  have w3 : ∃ E, (bif (decide (mid < mid + m - r) && decide (mid + m - r < b)) then sM k (P ++ D ++ (A2 ++ B2 ++ T)) mid (mid + m - r) b else P ++ D ++ (A2 ++ B2 ++ T)) = P ++ D ++ (E ++ T) ∧ Srt E ∧ Eqp E (A2 ++ B2) := by
   by_cases h1 : mid < mid + m - r
   ·by_cases h2 : mid + m - r < b
    ·simp only [h1, h2, decide_true, Bool.true_and, cond_true]
     obtain ⟨C, c1, c2, c3⟩ := symMerge_ok k (P ++ D) A2 B2 T mid (mid + m - r) b (by simp; omega) (by omega) (by omega) (by omega) (by omega) (by omega) (by omega) sA2 sB2
     exact ⟨C, by rw [show P ++ D ++ (A2 ++ B2 ++ T) = P ++ D ++ A2 ++ B2 ++ T by simp, c1]; simp, c2, c3⟩
    ·have : B2 = [] := List.length_eq_zero_iff.1 (by omega)
     subst this
     exact ⟨A2, by simp [h2], sA2, by simpa using Eqp.refl _⟩
   ·have : A2 = [] := List.length_eq_zero_iff.1 (by omega)
    subst this
    exact ⟨B2, by simp [h1], sB2, by simpa using Eqp.refl _⟩
  obtain ⟨E, f1, f2, f3⟩ := w3
  rw [f1]
  refine ⟨D ++ E, by simp, srt_app d2 f2 fun x hx y hy => ?_, ?_⟩
  ·have hx := d3.len_mem x hx
   have hy := f3.len_mem y hy
   rcases List.mem_append.1 hx with hx | hx <;> rcases List.mem_append.1 hy with hy | hy
   ·exact sA3 x hx y hy
   ·exact q3 x hx y hy
   ·exact le_of_lt' (q4 y hy x hx)
   ·exact sB3 x hx y hy
  ·refine (Eqp.app d3 f3).trans ?_
   rw [show A1 ++ B1 ++ (A2 ++ B2) = A1 ++ (B1 ++ A2) ++ B2 by simp, show A1 ++ A2 ++ (B1 ++ B2) = A1 ++ (A2 ++ B1) ++ B2 by simp]
   exact Eqp.app (Eqp.app (Eqp.refl _) (Eqp.symm (Eqp.swap q4))) (Eqp.refl _)
end Go.Fw
end
section
set_option linter.unusedVariables false
set_option linter.unusedSimpArgs false
set_option linter.unusedSectionVars false
namespace Go.Fw
set_option linter.unusedVariables false
set_option linter.unusedSimpArgs false
inductive Full (s : Int) : List GKey → Prop
 | nil : Full s []
 | cons {b r : List GKey} : (b.length : Int) = s → Srt b → Full s r → Full s (b ++ r)
theorem stable_l2_ok {x1 : Int} (hlim : x1 + 64 < 4294967296) : ∀ (k : Nat) (P R : List GKey) (a b : Int), a = P.length → b = a + 20 → x1 = a + R.length → R.length < k →
  ∃ Q R', (sS_l2 x1 k a b (P ++ R)).2.2 = P ++ Q ++ R' ∧ (sS_l2 x1 k a b (P ++ R)).1 = a + Q.length ∧ Full 20 Q ∧ R'.length < 20 ∧ Eqp (Q ++ R') R ∧ x1 = a + Q.length + R'.length
 | 0, P, R, a, b, ha, hb, hx, hk => by omega
 | k + 1, P, R, a, b, ha, hb, hx, hk => by
  simp only [sS_l2]
  by_cases hd : b ≤ x1
  ·simp only [decide_eq_true hd, Bool.not_true, cond_false]
   have e : iAdd .i64 b 20 = b + 20 := iAddC (by omega) (by omega)
   rw [e]
   obtain ⟨M, R, rfl, l1⟩ := split_at (A := R) (k := 20) (by omega) (by omega)
   simp only [List.length_append] at *
   obtain ⟨M', q1, q2, q3⟩ := insertion_ok (P := P) (M := M) (T := R) (a := a) (b := b) ha (by omega) (by omega)
   have lM : M'.length = M.length := by
    have := congrArg List.length q1
    rw [insertionSort_len] at this
    simp at this; omega
   rw [show P ++ (M ++ R) = P ++ M ++ R by simp, q1]
   obtain ⟨Q, R', r1, r2, r3, r4, r5, r6⟩ := stable_l2_ok hlim k (P ++ M') R b (b + 20) (by simp; omega) rfl (by omega) (by omega)
   refine ⟨M' ++ Q, R', by rw [r1]; simp, by rw [r2]; simp; omega, Full.cons (by omega) q2 r3, r4, ?_, by simp; omega⟩
   rw [List.append_assoc]
   exact Eqp.app q3 r5
  ·simp only [decide_eq_false hd, Bool.not_false, cond_true]
   exact ⟨[], R, by simp, by simp, Full.nil, by omega, Eqp.refl _, by simp; omega⟩
def Rest (s : Int) (R : List GKey) : Prop := (∃ b R0, R = b ++ R0 ∧ (b.length : Int) = s ∧ Srt b ∧ Srt R0 ∧ (R0.length : Int) < s) ∨ (Srt R ∧ (R.length : Int) < s)
theorem stable_l11_ok {x1 s : Int} (h0 : 20 ≤ s) (h8 : s ≤ 2 * x1 + 20) (hlim : 64 * x1 + 640 < 4294967296) : ∀ (k : Nat) (P Q R : List GKey) (a b : Int), a = P.length → b = a + 2 * s → x1 = a + Q.length + R.length → Q.length < k → Full s Q → Srt R → (R.length : Int) < s →
  ∃ Q' R', (sS_l11 x1 s k a b (P ++ Q ++ R)).2.2 = P ++ Q' ++ R' ∧ (sS_l11 x1 s k a b (P ++ Q ++ R)).1 = a + Q'.length ∧ Full (2 * s) Q' ∧ Rest s R' ∧ Eqp (Q' ++ R') (Q ++ R) ∧ x1 = a + Q'.length + R'.length
 | 0, P, Q, R, a, b, ha, hb, hx, hk, hf, hr, hl => by omega
 | k + 1, P, Q, R, a, b, ha, hb, hx, hk, hf, hr, hl => by
  simp only [sS_l11]
  have e0 : iMul .i64 2 s = 2 * s := iMulC (by omega) (by omega)
  have e1 : iAdd .i64 a s = a + s := iAddC (by omega) (by omega)
  rw [e0, e1]
  cases hf with
  | nil =>
   have hd : ¬ b ≤ x1 := by simp at hx; omega
   simp only [decide_eq_false hd, Bool.not_false, cond_true]
   exact ⟨[], R, by simp, by simp, Full.nil, Or.inr ⟨hr, hl⟩, Eqp.refl _, by simp at hx ⊢; omega⟩
  | @cons b0 Q1 l0 s0 f1 =>
   cases f1 with
   | nil =>
    have hd : ¬ b ≤ x1 := by simp at hx; omega
    simp only [decide_eq_false hd, Bool.not_false, cond_true]
    exact ⟨[], b0 ++ R, by simp, by simp, Full.nil, Or.inl ⟨b0, R, rfl, l0, s0, hr, hl⟩, by simpa using Eqp.refl _, by simp at hx ⊢; omega⟩
   | @cons b1 Q2 l1 s1 f2 =>
    simp only [List.length_append] at *
    have hd : b ≤ x1 := by omega
    simp only [decide_eq_true hd, Bool.not_true, cond_false]
    have e : iAdd .i64 b (2 * s) = b + 2 * s := iAddC (by omega) (by omega)
    rw [e]
    obtain ⟨C, c1, c2, c3⟩ := symMerge_ok ((b - a).toNat + 1) P b0 b1 (Q2 ++ R) a (a + s) b ha (by omega) (by omega) (by omega) (by omega) (by omega) (by omega) s0 s1
    have lC : C.length = b0.length + b1.length := by
     have := congrArg List.length c1
     rw [symMerge_len] at this
     simp at this; omega
    rw [show P ++ (b0 ++ (b1 ++ Q2)) ++ R = P ++ b0 ++ b1 ++ (Q2 ++ R) by simp, c1, ← List.append_assoc]
    obtain ⟨Q', R', r1, r2, r3, r4, r5, r6⟩ := stable_l11_ok h0 h8 hlim k (P ++ C) Q2 R b (b + 2 * s) (by simp; omega) rfl (by omega) (by omega) f2 hr hl
    refine ⟨C ++ Q', R', by rw [r1]; simp, by rw [r2]; simp; omega, Full.cons (by omega) c2 r3, r4, ?_, by simp; omega⟩
    rw [show C ++ Q' ++ R' = C ++ (Q' ++ R') by simp, show b0 ++ (b1 ++ Q2) ++ R = (b0 ++ b1) ++ (Q2 ++ R) by simp]
    exact Eqp.app c3 r5
theorem stable_l7_ok {x1 : Int} (hlim : 64 * x1 + 640 < 4294967296) : ∀ (k : Nat) (Q R : List GKey) (s u v : Int), 20 ≤ s → s ≤ 2 * x1 + 20 → x1 = Q.length + R.length → x1 - s < k → 0 < k → Full s Q → Srt R → (R.length : Int) < s →
  ∃ L, sS_l7 x1 k s u v (Q ++ R) = L ∧ Srt L ∧ Eqp L (Q ++ R)
 | 0, Q, R, s, u, v, h0, h8, hx, hk, hk0, hf, hr, hl => by omega
 | k + 1, Q, R, s, u, v, h0, h8, hx, hk, hk0, hf, hr, hl => by
  simp only [sS_l7]
  by_cases hd : s < x1
  ·simp only [decide_eq_true hd, Bool.not_true, cond_false]
   have e0 : iMul .i64 2 s = 2 * s := iMulC (by omega) (by omega)
   have e2 : iMul .i64 s 2 = s * 2 := iMulC (by omega) (by omega)
   rw [e0, e2]
   obtain ⟨Q', R', r1, r2, r3, r4, r5, r6⟩ := stable_l11_ok h0 h8 hlim ((x1 + 2 * s).toNat + 1) [] Q R 0 (2 * s) rfl (by omega) (by omega) (by omega) hf hr hl
   simp only [List.nil_append] at r1 r2
   rw [r1, r2]
   have e1 : iAdd .i64 (0 + (Q'.length : Int)) s = Q'.length + s := by rw [iAddC (by omega) (by omega)]; omega
   rw [e1, show s * 2 = 2 * s by omega]
   rcases r4 with ⟨b, R0, rfl, l1, s1, s0, l0⟩ | ⟨s1, l1⟩
   ·simp only [List.length_append] at r6
    by_cases h1 : (Q'.length : Int) + s < x1
    ·simp only [decide_eq_true h1, cond_true]
     obtain ⟨C, c1, c2, c3⟩ := symMerge_ok ((x1 - (0 + (Q'.length : Int))).toNat + 1) Q' b R0 [] (0 + Q'.length) (Q'.length + s) x1 (by omega) (by omega) (by omega) (by omega) (by omega) (by omega) (by omega) s1 s0
     have lC : C.length = b.length + R0.length := by
      have := congrArg List.length c1
      rw [symMerge_len] at this
      simp at this; omega
     simp only [List.append_nil] at c1
     rw [← List.append_assoc, c1]
     obtain ⟨L, d1, d2, d3⟩ := stable_l7_ok hlim k Q' C (2 * s) (0 + Q'.length) ((sS_l11 x1 s ((x1 + 2 * s).toNat + 1) 0 (2 * s) (Q ++ R)).2.1) (by omega) (by omega) (by omega) (by omega) (by omega) r3 c2 (by omega)
     exact ⟨L, d1, d2, d3.trans ((Eqp.app (Eqp.refl _) c3).trans r5)⟩
    ·simp only [decide_eq_false h1, cond_false]
     have : R0 = [] := List.length_eq_zero_iff.1 (by omega)
     subst this
     simp only [List.append_nil] at *
     obtain ⟨L, d1, d2, d3⟩ := stable_l7_ok hlim k Q' b (2 * s) (0 + Q'.length) ((sS_l11 x1 s ((x1 + 2 * s).toNat + 1) 0 (2 * s) (Q ++ R)).2.1) (by omega) (by omega) (by simp at r6; omega) (by omega) (by omega) r3 s1 (by omega)
     exact ⟨L, d1, d2, d3.trans r5⟩
   ·have h1 : ¬ (Q'.length : Int) + s < x1 := by omega
    simp only [decide_eq_false h1, cond_false]
    obtain ⟨L, d1, d2, d3⟩ := stable_l7_ok hlim k Q' R' (2 * s) (0 + Q'.length) ((sS_l11 x1 s ((x1 + 2 * s).toNat + 1) 0 (2 * s) (Q ++ R)).2.1) (by omega) (by omega) (by omega) (by omega) (by omega) r3 s1 (by omega)
    exact ⟨L, d1, d2, d3.trans r5⟩
  ·simp only [decide_eq_false hd, Bool.not_false, cond_true]
   refine ⟨_, rfl, ?_, Eqp.refl _⟩
   cases hf with
   | nil => simpa using hr
   | @cons b0 Q1 l0 s0 f1 =>
    simp only [List.length_append] at hx
    have h1 : Q1 = [] := List.length_eq_zero_iff.1 (by omega)
    have h2 : R = [] := List.length_eq_zero_iff.1 (by omega)
    subst h1; subst h2
    simpa using s0
theorem stable_ok {l : List GKey} {n : Int} (hn : n = l.length) (hlim : 64 * n + 640 < 4294967296) : Srt (sS l n) ∧ Eqp (sS l n) l := by
 unfold sS
 dsimp only
 obtain ⟨Q, R, r1, r2, r3, r4, r5, r6⟩ := stable_l2_ok (x1 := n) (by omega) (n.toNat + 21) [] l 0 20 rfl rfl (by omega) (by omega)
 simp only [List.nil_append] at r1 r2
 rw [r1, r2]
 obtain ⟨M, q1, q2, q3⟩ := insertion_ok (P := Q) (M := R) (T := []) (a := 0 + Q.length) (b := n) (by omega) (by omega) (by omega)
 simp only [List.append_nil] at q1
 have lM : M.length = R.length := by
  have := congrArg List.length q1
  rw [insertionSort_len] at this
  simp at this; omega
 rw [q1]
 obtain ⟨L, d1, d2, d3⟩ := stable_l7_ok (x1 := n) hlim (n.toNat + 1) Q M 20 (0 + Q.length) ((sS_l2 n (n.toNat + 21) 0 20 l).2.1) (by omega) (by omega) (by omega) (by omega) (by omega) r3 q2 (by omega)
 rw [d1]
 exact ⟨d2, d3.trans ((Eqp.app (Eqp.refl _) q3).trans r5)⟩
theorem srt_le1 {l : List GKey} (h : l.length ≤ 1) : Srt l := by
 match l, h with
 | [], _ => exact List.Pairwise.nil
 | [x], _ => exact List.pairwise_singleton _ _
theorem Order_ok {l : List GKey} (hlim : l.length ≤ 1048576) : Srt (key_Order l) ∧ Eqp (key_Order l) l := by
 unfold key_Order
 dsimp only
 rw [mLen_eq, qiEq, qiEq]
 by_cases h : l.length ≤ 1
 ·have : (decide ((l.length : Int) = 0) || decide ((l.length : Int) = 1)) = true := by
   rw [← Bool.decide_or]; exact decide_eq_true (by omega)
  rw [this]
  exact ⟨srt_le1 h, Eqp.refl _⟩
 ·have : (decide ((l.length : Int) = 0) || decide ((l.length : Int) = 1)) = false := by
   rw [← Bool.decide_or]; exact decide_eq_false (by omega)
  rw [this]
  have hs : (sS l (l.length : Int)).length = l.length := stable_len
  have : ((sS l (l.length : Int)).drop 0).take ((l.length : Int).toNat - 0) = sS l l.length := by
   rw [List.drop_zero]; exact List.take_of_length_le (by omega)
  simp only [cond_false]
  rw [this]
  exact stable_ok rfl (by omega)
end Go.Fw
end
section
set_option linter.unusedVariables false
set_option linter.unusedSimpArgs false
set_option linter.unusedSectionVars false
namespace Go.Fw
set_option linter.unusedVariables false
set_option linter.unusedSimpArgs false
def pv : List UInt8 → Int → Option Int
 | [], a => some a
 | c :: r, a => if c.toNat < 48 ∨ c.toNat > 57 then none else pv r (10 * a + (c.toNat - 48))
def tD (n : Nat) : List UInt8 :=
 if n < 10 then [UInt8.ofNat (48 + n)] else if n < 100 then [UInt8.ofNat (48 + n / 10), UInt8.ofNat (48 + n % 10)]
 else if n < 1000 then [UInt8.ofNat (48 + n / 100), UInt8.ofNat (48 + n / 10 % 10), UInt8.ofNat (48 + n % 10)]
 else [UInt8.ofNat (48 + n / 1000), UInt8.ofNat (48 + n / 100 % 10), UInt8.ofNat (48 + n / 10 % 10), UInt8.ofNat (48 + n % 10)]
theorem tens_D : ∀ n < 1024, ref07_Tens ((n : Nat) : Int) = tD n := by decide +kernel
theorem idx_tens : ∀ n < 1024, key_Index ⟨ref07_Tens ((n : Nat) : Int), 0⟩ = (((n : Nat) : Int), true) := by decide +kernel
theorem idx_l1_sym {s : List UInt8} {a b : Int} : ∀ (n : Nat) {u1 : Int} {u2 : Bool} {u3 u4 : Int}, key_Index_l1 ⟨s, a⟩ n u1 u2 u3 u4 = key_Index_l1 ⟨s, b⟩ n u1 u2 u3 u4
 | 0, _, _, _, _ => rfl
 | n + 1, u1, u2, u3, u4 => by
  simp only [key_Index_l1]
  rw [idx_l1_sym (a := a) (b := b) n]
theorem idx_sym {s : List UInt8} {a : Int} (h : ¬ a > 0) : key_Index ⟨s, a⟩ = key_Index ⟨s, 0⟩ := by
 unfold key_Index
 dsimp only
 rw [idx_l1_sym (a := a) (b := 0), decide_eq_false h, decide_eq_false (by omega : ¬ (0 : Int) > 0)]
theorem idx_sym1 {k : GKey} (h : k.Sym > 0) : key_Index k = (0, false) := by
 unfold key_Index
 dsimp only
 rw [decide_eq_true h]; rfl
theorem wsub {c : UInt8} (h : 48 ≤ c.toNat) : IntKind.wrap .i64 (iSub .u8 ((c.toNat : Nat) : Int) 48) = c.toNat - 48 := by
 have hc := c.toNat_lt
 have e : iSub .u8 ((c.toNat : Nat) : Int) 48 = c.toNat - 48 := by
  show (if (false && decide (((c.toNat : Int) - 48) % 2 ^ 8 ≥ 2 ^ (8 - 1))) = true then ((c.toNat : Int) - 48) % 2 ^ 8 - 2 ^ 8 else ((c.toNat : Int) - 48) % 2 ^ 8) = _
  simp; omega
 rw [e]
 have := iAddC (a := (c.toNat : Int) - 48) (b := 0) (by omega) (by omega)
 unfold iAdd at this
 simpa using this
theorem sLen_eq (s : List UInt8) : sLen s = (s.length : Int) := rfl
theorem idx_l1 {s : List UInt8} {b : Int} (hs : s.length ≤ 4) : ∀ (n j : Nat) {u1 : Int} {u2 : Bool} {a : Int}, j ≤ s.length → s.length - j < n → 0 ≤ a → ((j = 0 ∧ a ≤ 0) ∨ (j = 1 ∧ a ≤ 9) ∨ (j = 2 ∧ a ≤ 99) ∨ (j = 3 ∧ a ≤ 999) ∨ (j = 4 ∧ a ≤ 9999)) →
  ∃ r, key_Index_l1 ⟨s, b⟩ n u1 u2 a j = r ∧ (match pv (s.drop j) a with | none => r.1 = false ∧ r.2.2.2.2 = (0, false) | some v => r.1 = true ∧ r.2.2.2.1 = v)
 | 0, j, _, _, a, hj, hn, _, _ => by omega
 | n + 1, j, u1, u2, a, hj, hn, h0, h1 => by
  simp only [key_Index_l1, Int.toNat_natCast]
  by_cases hlt : j < s.length
  ·have e : s.drop j = s.getD j 0 :: s.drop (j + 1) := by
    rw [List.drop_eq_getElem_cons hlt]; simp [List.getD_eq_getElem?_getD, hlt]
   rw [e]
   have hd : decide ((j : Int) < (sLen s : Int)) = true := decide_eq_true (show (j : Int) < (s.length : Int) by omega)
   simp only [hd, Bool.not_true, cond_false, pv]
   obtain ⟨c, hcc⟩ : ∃ c, s.getD j 0 = c := ⟨_, rfl⟩
   simp only [hcc]
   by_cases hc : c.toNat < 48 ∨ c.toNat > 57
   ·have : (decide (((c.toNat : Nat) : Int) < 48) || decide (((c.toNat : Nat) : Int) > 57)) = true := by
     rw [← Bool.decide_or]; exact decide_eq_true (by omega)
    simp only [this, cond_true, hc, if_true]
    exact ⟨_, rfl, rfl, rfl⟩
   ·have : (decide (((c.toNat : Nat) : Int) < 48) || decide (((c.toNat : Nat) : Int) > 57)) = false := by
     rw [← Bool.decide_or]; exact decide_eq_false (by omega)
    simp only [this, cond_false, hc, if_false]
    rw [wsub (by omega), iMulC (by omega) (by omega), iAddC (by omega) (by omega), qAdd (by omega), show a * 10 + (↑c.toNat - 48) = 10 * a + (↑c.toNat - 48) by omega]
    exact idx_l1 hs n (j + 1) (by omega) (by omega) (by omega) (by omega)
  ·rw [List.drop_eq_nil_iff.2 (by omega)]
   have hd : decide ((j : Int) < (sLen s : Int)) = false := decide_eq_false (show ¬ (j : Int) < (s.length : Int) by omega)
   simp only [hd, Bool.not_false, cond_true, pv]
   exact ⟨_, rfl, rfl, rfl⟩
theorem idx_eq {s : List UInt8} : key_Index ⟨s, 0⟩ = if s = [] ∨ s.length > 4 ∨ (s.length > 1 ∧ (s.getD 0 0).toNat = 48) then (0, false) else match pv s 0 with | none => (0, false) | some v => if v ≥ 1024 then (0, false) else (v, true) := by
 unfold key_Index
 dsimp only
 have hg : (((decide ((0 : Int) > 0) || sEq s []) || decide ((sLen s : Int) > 4)) || (decide ((sLen s : Int) > 1) && iEq (((s.getD (0 : Int).toNat 0).toNat : Nat) : Int) 48)) = decide (s = [] ∨ s.length > 4 ∨ (s.length > 1 ∧ (s.getD 0 0).toNat = 48)) := by
  rw [qsEq, qiEq, sLen_eq, ← Bool.decide_or, ← Bool.decide_or, ← Bool.decide_and, ← Bool.decide_or]
  apply decide_eq_decide.2
  have : (0 : Int).toNat = 0 := rfl
  rw [this]
  constructor
  ·rintro (((h | h) | h) | ⟨h1, h2⟩)
   ·omega
   ·exact Or.inl h
   ·exact Or.inr (Or.inl (by omega))
   ·exact Or.inr (Or.inr ⟨by omega, by omega⟩)
  ·rintro (h | h | ⟨h1, h2⟩)
   ·exact Or.inl (Or.inl (Or.inr h))
   ·exact Or.inl (Or.inr (by omega))
   ·exact Or.inr ⟨by omega, by omega⟩
 rw [hg]
 by_cases h : s = [] ∨ s.length > 4 ∨ (s.length > 1 ∧ (s.getD 0 0).toNat = 48)
 ·rw [if_pos h, decide_eq_true h]; rfl
 ·rw [if_neg h, decide_eq_false h]
  obtain ⟨r, hr, hm⟩ := idx_l1 (s := s) (b := 0) (by omega) ((sLen s : Int).toNat + 1) 0 (u1 := 0) (u2 := false) (a := 0) (by omega) (by rw [sLen_eq]; omega) (by omega) (by omega)
  simp only [show (((0 : Nat) : Int)) = 0 from rfl, List.drop_zero] at hr hm
  rw [hr]
  cases hp : pv s 0 with
  | none =>
   rw [hp] at hm
   rw [qsel, hm.1, hm.2]; rfl
  | some v =>
   rw [hp] at hm
   rw [qsel, hm.1, hm.2]
   by_cases hv : v ≥ 1024 <;> simp [hv]
theorem u8eq {a : UInt8} {n : Nat} (h : a.toNat = n) : UInt8.ofNat n = a := by subst h; simp
theorem idx_back {s : List UInt8} {v : Int} (h : key_Index ⟨s, 0⟩ = (v, true)) : ∃ n : Nat, v = n ∧ n < 1024 ∧ ref07_Tens (n : Int) = s := by
 rw [idx_eq] at h
 split at h
 ·cases h
 rename_i hg
 cases hp : pv s 0 with
 | none => rw [hp] at h; cases h
 | some w =>
  rw [hp] at h
  simp only at h
  split at h
  ·cases h
  rename_i hw
  simp only [Prod.mk.injEq, and_true] at h
  subst h
  match s, hg, hp with
  | [], hg, hp => exact absurd (Or.inl rfl) hg
  | [a], hg, hp =>
   simp only [pv] at hp
   split at hp
   ·cases hp
   simp only [Option.some.injEq] at hp
   refine ⟨a.toNat - 48, by omega, by omega, ?_⟩
   rw [tens_D _ (by omega)]
   unfold tD
   rw [if_pos (by omega), u8eq (a := a) (by omega)]
  | [a, b], hg, hp =>
   simp only [pv] at hp
   split at hp
   ·cases hp
   split at hp
   ·cases hp
   simp only [Option.some.injEq] at hp
   simp at hg
   refine ⟨10 * (a.toNat - 48) + (b.toNat - 48), by omega, by omega, ?_⟩
   rw [tens_D _ (by omega)]
   unfold tD
   rw [if_neg (by omega), if_pos (by omega), u8eq (a := a) (by omega), u8eq (a := b) (by omega)]
  | [a, b, c], hg, hp =>
   simp only [pv] at hp
   split at hp
   ·cases hp
   split at hp
   ·cases hp
   split at hp
   ·cases hp
   simp only [Option.some.injEq] at hp
   simp at hg
   refine ⟨100 * (a.toNat - 48) + 10 * (b.toNat - 48) + (c.toNat - 48), by omega, by omega, ?_⟩
   rw [tens_D _ (by omega)]
   unfold tD
   rw [if_neg (by omega), if_neg (by omega), if_pos (by omega), u8eq (a := a) (by omega), u8eq (a := b) (by omega), u8eq (a := c) (by omega)]
  | [a, b, c, d], hg, hp =>
   simp only [pv] at hp
   split at hp
   ·cases hp
   split at hp
   ·cases hp
   split at hp
   ·cases hp
   split at hp
   ·cases hp
   simp only [Option.some.injEq] at hp
   simp at hg
   refine ⟨1000 * (a.toNat - 48) + 100 * (b.toNat - 48) + 10 * (c.toNat - 48) + (d.toNat - 48), by omega, by omega, ?_⟩
   rw [tens_D _ (by omega)]
   unfold tD
   rw [if_neg (by omega), if_neg (by omega), if_neg (by omega), u8eq (a := a) (by omega), u8eq (a := b) (by omega), u8eq (a := c) (by omega), u8eq (a := d) (by omega)]
  | a :: b :: c :: d :: e :: r, hg, hp => exact absurd (Or.inr (Or.inl (by simp))) hg
end Go.Fw
end
section
set_option linter.unusedVariables false
set_option linter.unusedSimpArgs false
set_option linter.unusedSectionVars false
namespace Go.Fw
set_option linter.unusedVariables false
set_option linter.unusedSimpArgs false
theorem idx_false {s : List UInt8} {x : Int} (h : key_Index ⟨s, 0⟩ = (x, false)) : x = 0 := by
 rw [idx_eq] at h
 split at h
 ·cases h; rfl
 ·split at h
  ·cases h; rfl
  ·split at h
   ·cases h; rfl
   ·cases h
theorem rIdx_l1 {k : GKey} : ∀ (n j : Nat) {u1 : Int} {u2 : Bool}, j ≤ 1024 → 1024 - j < n → (∀ i < j, ref07_Tens ((i : Nat) : Int) ≠ k.Str) →
  ∃ r, ref08_Index_l1 k n u1 u2 j = r ∧ ((r.1 = false ∧ r.2.2.2.2 = true ∧ ∃ m : Nat, m < 1024 ∧ r.2.2.2.1 = m ∧ ref07_Tens (m : Int) = k.Str) ∨ (r.1 = true ∧ ∀ i < 1024, ref07_Tens ((i : Nat) : Int) ≠ k.Str))
 | 0, j, _, _, hj, hn, hm => by omega
 | n + 1, j, u1, u2, hj, hn, hm => by
  simp only [ref08_Index_l1]
  by_cases hlt : j < 1024
  ·have hd : decide ((j : Int) < 1024) = true := decide_eq_true (by omega)
   simp only [hd, Bool.not_true, cond_false, qsEq]
   by_cases he : ref07_Tens (j : Int) = k.Str
   ·simp only [decide_eq_true he, cond_true]
    exact ⟨_, rfl, Or.inl ⟨rfl, rfl, j, hlt, rfl, he⟩⟩
   ·simp only [decide_eq_false he, cond_false, qAdd (show j ≤ 4294967296 by omega)]
    exact rIdx_l1 n (j + 1) (by omega) (by omega) (fun i hi => by
     by_cases h : i = j
     ·subst h; exact he
     ·exact hm i (by omega))
  ·have hd : decide ((j : Int) < 1024) = false := decide_eq_false (by omega)
   simp only [hd, Bool.not_false, cond_true]
   exact ⟨_, rfl, Or.inr ⟨rfl, fun i hi => hm i (by omega)⟩⟩
theorem rIdx_eq (k : GKey) : ref08_Index k = key_Index k := by
 by_cases hs : k.Sym > 0
 ·rw [idx_sym1 hs]
  unfold ref08_Index
  dsimp only
  rw [decide_eq_true hs]; rfl
 obtain ⟨s, a⟩ := k
 rw [idx_sym hs]
 by_cases hl : s.length > 4
 ·rw [idx_eq, if_pos (Or.inr (Or.inl hl))]
  unfold ref08_Index
  dsimp only
  have : decide ((sLen s : Int) > 4) = true := decide_eq_true (show (s.length : Int) > 4 by omega)
  rw [this, Bool.or_true]; rfl
 unfold ref08_Index
 dsimp only
 have h1 : decide ((sLen s : Int) > 4) = false := decide_eq_false (show ¬ (s.length : Int) > 4 by omega)
 have h2 : decide (a > 0) = false := decide_eq_false hs
 rw [h1, h2]
 obtain ⟨r, hr, hc⟩ := rIdx_l1 (k := ⟨s, a⟩) ((1024 : Int).toNat + 1) 0 (u1 := 0) (u2 := false) (by omega) (by show 1024 - 0 < 1025; omega) (fun i hi => by omega)
 simp only [show (((0 : Nat) : Int)) = 0 from rfl] at hr
 rw [hr]
 rcases hc with ⟨c1, c2, m, c3, c4, c5⟩ | ⟨c1, c2⟩
 ·simp only at c5
  rw [qsel, c1, c2, c4, ← c5, idx_tens m c3]; rfl
 ·rw [qsel, c1]
  generalize hk : key_Index ⟨s, 0⟩ = x
  obtain ⟨v, b⟩ := x
  cases b with
  | true =>
   obtain ⟨m, q1, q2, q3⟩ := idx_back hk
   exact absurd q3 (c2 m q2)
  | false => rw [idx_false hk]; rfl
def isI (k : GKey) : Bool := (key_Index k).2
def num (k : GKey) : Int := (key_Index k).1
theorem isI_sym {k : GKey} (h : isI k = true) : ¬ k.Sym > 0 := by
 intro hs; unfold isI at h; rw [idx_sym1 hs] at h; cases h
theorem place_eq (k : GKey) : key_place k = if isI k = true then (0, num k) else if k.Sym > 0 then (2, 0) else (1, 0) := by
 unfold key_place isI num
 dsimp only
 simp only [Bool.cond_eq_ite, decide_eq_true_eq]
theorem ltK_num {a b : GKey} (ha : isI a = true) (hb : isI b = true) : ltK a b = decide (num a < num b) := by
 rw [Bool.eq_iff_iff, ltK_iff, place_eq, place_eq, if_pos ha, if_pos hb, decide_eq_true_eq]
 simp
theorem l6_ok {v5 : Int × Bool} {T : List GKey} : ∀ (n : Nat) (S : List GKey) (u : Int), u = S.length → S.length < n → S.length ≤ 4294967296 → (S.Pairwise fun a b => num a ≤ num b) →
  ∃ S1 S2, S = S1 ++ S2 ∧ ref08_Order_l6 ((S ++ T).map num) v5 n u = S1.length ∧ (∀ y ∈ S1, num y ≤ v5.1) ∧ (∀ y ∈ S2, v5.1 < num y)
 | 0, S, u, hu, hn, hl, hs => by omega
 | n + 1, S, u, hu, hn, hl, hs => by
  simp only [ref08_Order_l6]
  rcases List.eq_nil_or_concat S with rfl | ⟨S', y, rfl⟩
  ·have hd : decide (u > 0) = false := decide_eq_false (by simp at hu; omega)
   refine ⟨[], [], rfl, ?_, by simp, by simp⟩
   simp [hd]; simpa using hu
  ·simp only [List.concat_eq_append, List.length_append, List.length_cons, List.length_nil] at *
   have hd : decide (u > 0) = true := decide_eq_true (by omega)
   have e1 : iSub .i64 u 1 = u - 1 := iSubC (by omega) (by omega)
   have g : ((S' ++ [y] ++ T).map num).getD (u - 1).toNat default = num y := by
    rw [show (S' ++ [y] ++ T).map num = S'.map num ++ num y :: T.map num by simp]; exact at_mid (by simp; omega)
   simp only [hd, e1, g, Bool.true_and]
   by_cases hy : num y > v5.1
   ·simp only [decide_eq_true hy, Bool.not_true, cond_false]
    obtain ⟨S1, S2, q1, q2, q3, q4⟩ := l6_ok (v5 := v5) (T := y :: T) n S' (u - 1) (by omega) (by omega) (by omega) (List.pairwise_append.1 hs).1
    refine ⟨S1, S2 ++ [y], by rw [q1]; simp, by rw [← q2]; simp, q3, fun z hz => ?_⟩
    rcases List.mem_append.1 hz with hz | hz
    ·exact q4 z hz
    ·simp at hz; subst hz; exact hy
   ·simp only [decide_eq_false hy, Bool.not_false, cond_true]
    refine ⟨S' ++ [y], [], by simp, by simp; omega, fun z hz => ?_, by simp⟩
    rcases List.mem_append.1 hz with hz | hz
    ·have := (List.pairwise_append.1 hs).2.2 z hz y (by simp); omega
    ·simp at hz; subst hz; omega
theorem l9_ok {r : Int} : ∀ (n : Nat) (P S T : List GKey) (x : GKey) (P' S' T' : List Int) (x' : Int) (u : Int), r = P.length → u = P.length + S.length → P'.length = P.length → S'.length = S.length → u < n → u ≤ 4294967296 →
  ∃ y y', (ref08_Order_l9 r n u (P ++ S ++ x :: T) (P' ++ S' ++ x' :: T')).2.1 = P ++ y :: (S ++ T) ∧ (ref08_Order_l9 r n u (P ++ S ++ x :: T) (P' ++ S' ++ x' :: T')).2.2 = P' ++ y' :: (S' ++ T')
 | 0, P, S, T, x, P', S', T', x', u, hr, hu, hp, hs, hn, hl => by omega
 | n + 1, P, S, T, x, P', S', T', x', u, hr, hu, hp, hs, hn, hl => by
  simp only [ref08_Order_l9]
  rcases List.eq_nil_or_concat S with rfl | ⟨S0, y, rfl⟩
  ·have : S' = [] := List.length_eq_zero_iff.1 (by simpa using hs)
   subst this
   have hd : decide (u > r) = false := decide_eq_false (by simp at hu; omega)
   exact ⟨x, x', by simp [hd], by simp [hd]⟩
  ·rcases List.eq_nil_or_concat S' with rfl | ⟨S0', y', rfl⟩
   ·simp at hs
   simp only [List.concat_eq_append, List.length_append, List.length_cons, List.length_nil] at *
   have hd : decide (u > r) = true := decide_eq_true (by omega)
   have e1 : iSub .i64 u 1 = u - 1 := iSubC (by omega) (by omega)
   have g : (P ++ (S0 ++ [y]) ++ x :: T).getD (u - 1).toNat default = y := by
    rw [show P ++ (S0 ++ [y]) ++ x :: T = (P ++ S0) ++ y :: (x :: T) by simp]; exact at_mid (by simp; omega)
   have g' : (P' ++ (S0' ++ [y']) ++ x' :: T').getD (u - 1).toNat default = y' := by
    rw [show P' ++ (S0' ++ [y']) ++ x' :: T' = (P' ++ S0') ++ y' :: (x' :: T') by simp]; exact at_mid (by simp; omega)
   simp only [hd, e1, g, g', Bool.not_true, cond_false]
   rw [set_mid (by simp; omega), set_mid (by simp; omega)]
   obtain ⟨z, z', q1, q2⟩ := l9_ok (r := r) n P S0 (y :: T) y P' S0' (y' :: T') y' (u - 1) hr (by omega) hp (by omega) (by omega) (by omega)
   refine ⟨z, z', ?_, ?_⟩
   ·rw [show P ++ (S0 ++ [y]) ++ y :: T = P ++ S0 ++ y :: (y :: T) by simp, show P' ++ (S0' ++ [y']) ++ y' :: T' = P' ++ S0' ++ y' :: (y' :: T') by simp, q1]; simp
   ·rw [show P ++ (S0 ++ [y]) ++ y :: T = P ++ S0 ++ y :: (y :: T) by simp, show P' ++ (S0' ++ [y']) ++ y' :: T' = P' ++ S0' ++ y' :: (y' :: T') by simp, q2]; simp
end Go.Fw
end
