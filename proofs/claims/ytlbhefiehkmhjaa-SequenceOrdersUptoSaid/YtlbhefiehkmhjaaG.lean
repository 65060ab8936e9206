/- Facts of the program's types: their parts. Printed by tools/FactsG.lean. -/
import Derived.Test.YtlbhefiehkmhjaaRows
import Derived.Test.YtlbhefiehkmhjaaA4
import Derived.KernelRfl
namespace Go.Proofs.Ytlbhefiehkmhjaa.K
open Go Go.AM Go.Proofs
theorem cel2 : Try.prog.cellsOf 2 = 1 := by kernel_rfl
theorem cel3 : Try.prog.cellsOf 3 = 1 := by kernel_rfl
theorem cel4 : Try.prog.cellsOf 4 = 1 := by kernel_rfl
theorem cel5 : Try.prog.cellsOf 5 = 1 := by kernel_rfl
theorem cel6 : Try.prog.cellsOf 6 = 1 := by kernel_rfl
theorem cel7 : Try.prog.cellsOf 7 = 4 := by kernel_rfl
theorem pcs7 : pcs Try.prog 7 = some [(0, 2), (1, 3), (2, 4), (3, 6)] := by kernel_rfl
theorem cel8 : Try.prog.cellsOf 8 = 4 := by kernel_rfl
theorem pcs8 : pcs Try.prog 8 = some [(0, 2), (1, 3), (2, 4), (3, 6)] := by kernel_rfl
theorem cel9 : Try.prog.cellsOf 9 = 1 := by kernel_rfl
theorem cel10 : Try.prog.cellsOf 10 = 1 := by kernel_rfl
theorem cel11 : Try.prog.cellsOf 11 = 1 := by kernel_rfl
theorem cel12 : Try.prog.cellsOf 12 = 1 := by kernel_rfl
theorem cel13 : Try.prog.cellsOf 13 = 2 := by kernel_rfl
theorem pcs13 : pcs Try.prog 13 = some [(0, 9), (1, 12)] := by kernel_rfl
theorem cel14 : Try.prog.cellsOf 14 = 2 := by kernel_rfl
theorem pcs14 : pcs Try.prog 14 = some [(0, 9), (1, 12)] := by kernel_rfl
theorem cel21 : Try.prog.cellsOf 21 = 1 := by kernel_rfl
theorem cel22 : Try.prog.cellsOf 22 = 1 := by kernel_rfl
theorem cel23 : Try.prog.cellsOf 23 = 1 := by kernel_rfl
theorem cel24 : Try.prog.cellsOf 24 = 2 := by kernel_rfl
theorem pcs24 : pcs Try.prog 24 = some [(0, 22), (1, 23)] := by kernel_rfl
theorem cel25 : Try.prog.cellsOf 25 = 2 := by kernel_rfl
theorem pcs25 : pcs Try.prog 25 = some [(0, 22), (1, 23)] := by kernel_rfl
theorem cel26 : Try.prog.cellsOf 26 = 1 := by kernel_rfl
theorem cel27 : Try.prog.cellsOf 27 = 1 := by kernel_rfl
theorem cel28 : Try.prog.cellsOf 28 = 1 := by kernel_rfl
theorem cel29 : Try.prog.cellsOf 29 = 6 := by kernel_rfl
theorem pcs29 : pcs Try.prog 29 = some [(0, 25), (2, 26), (3, 27), (4, 28), (5, 28)] := by kernel_rfl
theorem cel30 : Try.prog.cellsOf 30 = 6 := by kernel_rfl
theorem pcs30 : pcs Try.prog 30 = some [(0, 25), (2, 26), (3, 27), (4, 28), (5, 28)] := by kernel_rfl
theorem cel31 : Try.prog.cellsOf 31 = 1 := by kernel_rfl
theorem cel32 : Try.prog.cellsOf 32 = 1 := by kernel_rfl
theorem cel33 : Try.prog.cellsOf 33 = 4 := by kernel_rfl
theorem pcs33 : pcs Try.prog 33 = some [(0, 3), (1, 3), (2, 31), (3, 32)] := by kernel_rfl
theorem cel34 : Try.prog.cellsOf 34 = 4 := by kernel_rfl
theorem pcs34 : pcs Try.prog 34 = some [(0, 3), (1, 3), (2, 31), (3, 32)] := by kernel_rfl
theorem cel37 : Try.prog.cellsOf 37 = 1 := by kernel_rfl
theorem cel40 : Try.prog.cellsOf 40 = 1 := by kernel_rfl
theorem cel51 : Try.prog.cellsOf 51 = 2 := by kernel_rfl
theorem pcs51 : pcs Try.prog 51 = some [(0, 3), (1, 4)] := by kernel_rfl
theorem cel52 : Try.prog.cellsOf 52 = 2 := by kernel_rfl
theorem pcs52 : pcs Try.prog 52 = some [(0, 3), (1, 4)] := by kernel_rfl
theorem cel54 : Try.prog.cellsOf 54 = 2 := by kernel_rfl
theorem pcs54 : pcs Try.prog 54 = some [(0, 3), (1, 3)] := by kernel_rfl
theorem cel55 : Try.prog.cellsOf 55 = 2 := by kernel_rfl
theorem pcs55 : pcs Try.prog 55 = some [(0, 3), (1, 3)] := by kernel_rfl
theorem cel57 : Try.prog.cellsOf 57 = 1 := by kernel_rfl
theorem cel65 : Try.prog.cellsOf 65 = 1 := by kernel_rfl
theorem cel72 : Try.prog.cellsOf 72 = 1 := by kernel_rfl
theorem cel73 : Try.prog.cellsOf 73 = 4 := by kernel_rfl
theorem pcs73 : pcs Try.prog 73 = some [(0, 3), (1, 3), (2, 3), (3, 3)] := by kernel_rfl
theorem cel74 : Try.prog.cellsOf 74 = 4 := by kernel_rfl
theorem pcs74 : pcs Try.prog 74 = some [(0, 3), (1, 3), (2, 3), (3, 3)] := by kernel_rfl
theorem cel75 : Try.prog.cellsOf 75 = 16 := by kernel_rfl
theorem pcs75 : pcs Try.prog 75 = some [(0, 9), (1, 72), (2, 74), (6, 74), (10, 3), (11, 3), (12, 3), (13, 3), (14, 3), (15, 4)] := by kernel_rfl
theorem cel76 : Try.prog.cellsOf 76 = 16 := by kernel_rfl
theorem pcs76 : pcs Try.prog 76 = some [(0, 9), (1, 72), (2, 74), (6, 74), (10, 3), (11, 3), (12, 3), (13, 3), (14, 3), (15, 4)] := by kernel_rfl
theorem cel79 : Try.prog.cellsOf 79 = 2 := by kernel_rfl
theorem pcs79 : pcs Try.prog 79 = some [(0, 3), (1, 3)] := by kernel_rfl
theorem cel90 : Try.prog.cellsOf 90 = 1 := by kernel_rfl
theorem cel93 : Try.prog.cellsOf 93 = 14 := by kernel_rfl
theorem pcs93 : pcs Try.prog 93 = some [(0, 9), (1, 3), (2, 3), (3, 3), (4, 72), (5, 3), (6, 3), (7, 3), (8, 3), (9, 3), (10, 3), (11, 3), (12, 3), (13, 3)] := by kernel_rfl
theorem cel94 : Try.prog.cellsOf 94 = 14 := by kernel_rfl
theorem pcs94 : pcs Try.prog 94 = some [(0, 9), (1, 3), (2, 3), (3, 3), (4, 72), (5, 3), (6, 3), (7, 3), (8, 3), (9, 3), (10, 3), (11, 3), (12, 3), (13, 3)] := by kernel_rfl
theorem cel132 : Try.prog.cellsOf 132 = 1 := by kernel_rfl
theorem cel133 : Try.prog.cellsOf 133 = 6 := by kernel_rfl
theorem pcs133 : pcs Try.prog 133 = some [(0, 3), (1, 3), (2, 3), (3, 3), (4, 132), (5, 132)] := by kernel_rfl
theorem cel134 : Try.prog.cellsOf 134 = 6 := by kernel_rfl
theorem pcs134 : pcs Try.prog 134 = some [(0, 3), (1, 3), (2, 3), (3, 3), (4, 132), (5, 132)] := by kernel_rfl
theorem cel137 : Try.prog.cellsOf 137 = 2 := by kernel_rfl
theorem pcs137 : pcs Try.prog 137 = some [(0, 37), (1, 9)] := by kernel_rfl
theorem cel138 : Try.prog.cellsOf 138 = 2 := by kernel_rfl
theorem pcs138 : pcs Try.prog 138 = some [(0, 37), (1, 9)] := by kernel_rfl
theorem cel141 : Try.prog.cellsOf 141 = 1 := by kernel_rfl
theorem cel150 : Try.prog.cellsOf 150 = 1 := by kernel_rfl
theorem cel158 : Try.prog.cellsOf 158 = 1 := by kernel_rfl
theorem cel160 : Try.prog.cellsOf 160 = 1 := by kernel_rfl
theorem cel161 : Try.prog.cellsOf 161 = 2 := by kernel_rfl
theorem pcs161 : pcs Try.prog 161 = some [(0, 3), (1, 3)] := by kernel_rfl
theorem cel162 : Try.prog.cellsOf 162 = 2 := by kernel_rfl
theorem pcs162 : pcs Try.prog 162 = some [(0, 3), (1, 3)] := by kernel_rfl
theorem cel167 : Try.prog.cellsOf 167 = 1 := by kernel_rfl
theorem cel169 : Try.prog.cellsOf 169 = 1 := by kernel_rfl
theorem cel182 : Try.prog.cellsOf 182 = 0 := by kernel_rfl
theorem pcs182 : pcs Try.prog 182 = some [] := by kernel_rfl
theorem cel183 : Try.prog.cellsOf 183 = 0 := by kernel_rfl
theorem pcs183 : pcs Try.prog 183 = some [(0, 182)] := by kernel_rfl
theorem cel184 : Try.prog.cellsOf 184 = 0 := by kernel_rfl
theorem pcs184 : pcs Try.prog 184 = some [(0, 182)] := by kernel_rfl
theorem cel186 : Try.prog.cellsOf 186 = 1 := by kernel_rfl
theorem cel187 : Try.prog.cellsOf 187 = 1 := by kernel_rfl
theorem cel190 : Try.prog.cellsOf 190 = 1 := by kernel_rfl
theorem cel191 : Try.prog.cellsOf 191 = 1 := by kernel_rfl
end Go.Proofs.Ytlbhefiehkmhjaa.K
