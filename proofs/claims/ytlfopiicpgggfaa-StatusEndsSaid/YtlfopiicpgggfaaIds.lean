/- Numbers of functions in this translation. Conditions: none; definitions. -/
import GoSem.Core.Program
namespace Go.Proofs
abbrev F_gosem_cut_init : FuncId := 2
abbrev F_l31_StatusTells : FuncId := 3
abbrev F_l31_StatusBack : FuncId := 4
abbrev F_l31_StatusEnds : FuncId := 5
abbrev F_status_Next : FuncId := 6
abbrev F_r31_Next : FuncId := 7
abbrev F_status_Text : FuncId := 8
abbrev F_r31_Text : FuncId := 9
abbrev F_status_Parse : FuncId := 10
abbrev F_r31_Parse : FuncId := 11
abbrev F_status_Seat : FuncId := 12
abbrev F_r31_Seat : FuncId := 13
abbrev F_status_Live : FuncId := 14
abbrev F_r31_Live : FuncId := 15
abbrev F_status_Events : FuncId := 16
abbrev F_r31_Events : FuncId := 17
abbrev F_l31_knows : FuncId := 18
abbrev F_status_after : FuncId := 19
abbrev F_r31_step : FuncId := 20
abbrev F_r31_texts : FuncId := 21
abbrev F_status_dropped : FuncId := 22
end Go.Proofs
