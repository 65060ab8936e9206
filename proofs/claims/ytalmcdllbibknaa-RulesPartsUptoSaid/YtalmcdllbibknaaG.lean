/- Facts of the program's types: their parts. Printed by tools/FactsG.lean. -/
import Derived.Test.YtalmcdllbibknaaRows
import Derived.Test.YtalmcdllbibknaaA4
import Derived.KernelRfl
namespace Go.Proofs.Ytalmcdllbibknaa.K
open Go Go.AM Go.Proofs
theorem cel2 : Try.prog.cellsOf 2 = 1 := by kernel_rfl
theorem cel3 : Try.prog.cellsOf 3 = 1 := by kernel_rfl
theorem cel4 : Try.prog.cellsOf 4 = 1 := by kernel_rfl
theorem cel5 : Try.prog.cellsOf 5 = 1 := by kernel_rfl
theorem cel6 : Try.prog.cellsOf 6 = 1 := by kernel_rfl
theorem cel7 : Try.prog.cellsOf 7 = 4 := by kernel_rfl
theorem pcs7 : pcs Try.prog 7 = some [(0, 2), (1, 3), (2, 4), (3, 6)] := by kernel_rfl
theorem cel8 : Try.prog.cellsOf 8 = 4 := by kernel_rfl
theorem pcs8 : pcs Try.prog 8 = some [(0, 2), (1, 3), (2, 4), (3, 6)] := by kernel_rfl
theorem cel9 : Try.prog.cellsOf 9 = 1 := by kernel_rfl
theorem cel10 : Try.prog.cellsOf 10 = 1 := by kernel_rfl
theorem cel11 : Try.prog.cellsOf 11 = 1 := by kernel_rfl
theorem cel12 : Try.prog.cellsOf 12 = 1 := by kernel_rfl
theorem cel13 : Try.prog.cellsOf 13 = 2 := by kernel_rfl
theorem pcs13 : pcs Try.prog 13 = some [(0, 9), (1, 12)] := by kernel_rfl
theorem cel14 : Try.prog.cellsOf 14 = 2 := by kernel_rfl
theorem pcs14 : pcs Try.prog 14 = some [(0, 9), (1, 12)] := by kernel_rfl
theorem cel21 : Try.prog.cellsOf 21 = 1 := by kernel_rfl
theorem cel22 : Try.prog.cellsOf 22 = 1 := by kernel_rfl
theorem cel24 : Try.prog.cellsOf 24 = 1 := by kernel_rfl
theorem cel26 : Try.prog.cellsOf 26 = 1 := by kernel_rfl
theorem cel27 : Try.prog.cellsOf 27 = 2 := by kernel_rfl
theorem pcs27 : pcs Try.prog 27 = some [(0, 26), (1, 9)] := by kernel_rfl
theorem cel28 : Try.prog.cellsOf 28 = 2 := by kernel_rfl
theorem pcs28 : pcs Try.prog 28 = some [(0, 26), (1, 9)] := by kernel_rfl
theorem cel30 : Try.prog.cellsOf 30 = 1 := by kernel_rfl
theorem cel31 : Try.prog.cellsOf 31 = 1 := by kernel_rfl
theorem cel32 : Try.prog.cellsOf 32 = 2 := by kernel_rfl
theorem pcs32 : pcs Try.prog 32 = some [(0, 30), (1, 31)] := by kernel_rfl
theorem cel33 : Try.prog.cellsOf 33 = 2 := by kernel_rfl
theorem pcs33 : pcs Try.prog 33 = some [(0, 30), (1, 31)] := by kernel_rfl
theorem cel34 : Try.prog.cellsOf 34 = 1 := by kernel_rfl
theorem cel35 : Try.prog.cellsOf 35 = 1 := by kernel_rfl
theorem cel36 : Try.prog.cellsOf 36 = 6 := by kernel_rfl
theorem pcs36 : pcs Try.prog 36 = some [(0, 33), (2, 34), (3, 35), (4, 22), (5, 22)] := by kernel_rfl
theorem cel37 : Try.prog.cellsOf 37 = 6 := by kernel_rfl
theorem pcs37 : pcs Try.prog 37 = some [(0, 33), (2, 34), (3, 35), (4, 22), (5, 22)] := by kernel_rfl
theorem cel45 : Try.prog.cellsOf 45 = 2 := by kernel_rfl
theorem pcs45 : pcs Try.prog 45 = some [(0, 3), (1, 3)] := by kernel_rfl
theorem cel47 : Try.prog.cellsOf 47 = 1 := by kernel_rfl
theorem cel48 : Try.prog.cellsOf 48 = 1 := by kernel_rfl
theorem cel49 : Try.prog.cellsOf 49 = 4 := by kernel_rfl
theorem pcs49 : pcs Try.prog 49 = some [(0, 3), (1, 3), (2, 3), (3, 3)] := by kernel_rfl
theorem cel50 : Try.prog.cellsOf 50 = 4 := by kernel_rfl
theorem pcs50 : pcs Try.prog 50 = some [(0, 3), (1, 3), (2, 3), (3, 3)] := by kernel_rfl
theorem cel51 : Try.prog.cellsOf 51 = 16 := by kernel_rfl
theorem pcs51 : pcs Try.prog 51 = some [(0, 9), (1, 48), (2, 50), (6, 50), (10, 3), (11, 3), (12, 3), (13, 3), (14, 3), (15, 4)] := by kernel_rfl
theorem cel52 : Try.prog.cellsOf 52 = 16 := by kernel_rfl
theorem pcs52 : pcs Try.prog 52 = some [(0, 9), (1, 48), (2, 50), (6, 50), (10, 3), (11, 3), (12, 3), (13, 3), (14, 3), (15, 4)] := by kernel_rfl
theorem cel65 : Try.prog.cellsOf 65 = 1 := by kernel_rfl
theorem cel69 : Try.prog.cellsOf 69 = 0 := by kernel_rfl
theorem pcs69 : pcs Try.prog 69 = some [] := by kernel_rfl
theorem cel70 : Try.prog.cellsOf 70 = 0 := by kernel_rfl
theorem pcs70 : pcs Try.prog 70 = some [(0, 69)] := by kernel_rfl
theorem cel71 : Try.prog.cellsOf 71 = 0 := by kernel_rfl
theorem pcs71 : pcs Try.prog 71 = some [(0, 69)] := by kernel_rfl
theorem cel73 : Try.prog.cellsOf 73 = 1 := by kernel_rfl
theorem cel74 : Try.prog.cellsOf 74 = 1 := by kernel_rfl
theorem cel75 : Try.prog.cellsOf 75 = 1 := by kernel_rfl
theorem cel78 : Try.prog.cellsOf 78 = 1 := by kernel_rfl
theorem cel79 : Try.prog.cellsOf 79 = 1 := by kernel_rfl
theorem cel82 : Try.prog.cellsOf 82 = 1 := by kernel_rfl
theorem cel83 : Try.prog.cellsOf 83 = 6 := by kernel_rfl
theorem pcs83 : pcs Try.prog 83 = some [(0, 3), (1, 3), (2, 3), (3, 3), (4, 82), (5, 82)] := by kernel_rfl
theorem cel84 : Try.prog.cellsOf 84 = 6 := by kernel_rfl
theorem pcs84 : pcs Try.prog 84 = some [(0, 3), (1, 3), (2, 3), (3, 3), (4, 82), (5, 82)] := by kernel_rfl
theorem cel85 : Try.prog.cellsOf 85 = 14 := by kernel_rfl
theorem pcs85 : pcs Try.prog 85 = some [(0, 9), (1, 3), (2, 3), (3, 3), (4, 48), (5, 3), (6, 3), (7, 3), (8, 3), (9, 3), (10, 3), (11, 3), (12, 3), (13, 3)] := by kernel_rfl
theorem cel86 : Try.prog.cellsOf 86 = 14 := by kernel_rfl
theorem pcs86 : pcs Try.prog 86 = some [(0, 9), (1, 3), (2, 3), (3, 3), (4, 48), (5, 3), (6, 3), (7, 3), (8, 3), (9, 3), (10, 3), (11, 3), (12, 3), (13, 3)] := by kernel_rfl
theorem cel88 : Try.prog.cellsOf 88 = 2 := by kernel_rfl
theorem pcs88 : pcs Try.prog 88 = some [(0, 3), (1, 3)] := by kernel_rfl
theorem cel89 : Try.prog.cellsOf 89 = 2 := by kernel_rfl
theorem pcs89 : pcs Try.prog 89 = some [(0, 3), (1, 3)] := by kernel_rfl
end Go.Proofs.Ytalmcdllbibknaa.K
