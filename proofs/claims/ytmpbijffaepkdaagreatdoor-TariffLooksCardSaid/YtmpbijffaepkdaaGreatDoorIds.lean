/- Numbers of functions in this translation. Conditions: none; definitions. -/
import GoSem.Core.Program
namespace Go.Proofs
abbrev Qd3 : FuncId := 4
abbrev Qcg : FuncId := 7
abbrev Qag : FuncId := 10
abbrev QaI : FuncId := 11
abbrev Qa1 : FuncId := 12
abbrev Qax : FuncId := 13
abbrev QaH : FuncId := 14
abbrev Qav : FuncId := 15
abbrev Qas : FuncId := 16
abbrev Qfh : FuncId := 19
abbrev Qar : FuncId := 28
abbrev QcI : FuncId := 29
abbrev QaO : FuncId := 30
abbrev QbQ : FuncId := 31
abbrev Qek : FuncId := 35
abbrev Qe2 : FuncId := 36
abbrev Qf1 : FuncId := 42
abbrev QaF : FuncId := 60
abbrev Qa3 : FuncId := 61
abbrev Qb0 : FuncId := 77
abbrev Qfc : FuncId := 93
abbrev Qbk : FuncId := 123
abbrev Qdg : FuncId := 129
abbrev Qc8 : FuncId := 178
abbrev Qe1 : FuncId := 179
end Go.Proofs
