/- A reading of the program, proved sound against the model, and what its functions answer by it: part 2. -/
import Derived.Test.YtdlmgaiiheeigaaGreatEva1
import Derived.Test.YtdlmgaiiheeigaaGreatProg
set_option linter.unusedSimpArgs false
set_option linter.unusedVariables false
namespace Go.Eva.S3
open Go.Proofs
noncomputable def codeOf (f : Func) : Code := match f.body with | some c => c | none => .skip
noncomputable def tis : Tr TI :=
  (.n (.n (.n (.n (.n (.n (.n (.n .z ⟨.fn, 1, 8, false⟩ .z) ⟨.slice 38, 1, 24, false⟩ (.n .z ⟨.ptr, 1, 8, false⟩ .z)) ⟨.int .i64, 1, 8, false⟩ (.n (.n .z ⟨.fn, 1, 8, false⟩ .z) ⟨.fn,
  1, 8, false⟩ .z)) ⟨.ptr, 1, 8, false⟩ (.n (.n (.n .z ⟨.fn, 1, 8, false⟩ .z) ⟨.fn, 1, 8, false⟩ .z) ⟨.struct [(0, 3), (1, 3), (2, 3), (3, 3), (4, 3), (5, 3), (6, 3), (7, 3), (8,
  3)], 9, 72, false⟩ (.n (.n .z ⟨.fn, 1, 8, false⟩ .z) ⟨.fn, 1, 8, false⟩ .z))) ⟨.struct [(0, 2), (1, 3), (2, 4), (3, 6)], 4, 24, false⟩ (.n (.n (.n (.n .z ⟨.fn, 1, 8, false⟩ .z)
  ⟨.fn, 1, 8, false⟩ .z) ⟨.fn, 1, 8, false⟩ (.n (.n .z ⟨.slice 4, 1, 24, false⟩ .z) ⟨.fn, 1, 8, false⟩ .z)) ⟨.struct [(0, 3), (1, 3), (2, 3), (3, 3), (4, 22)], 5, 40, false⟩ (.n (.n
  (.n .z ⟨.fn, 1, 8, false⟩ .z) ⟨.fn, 1, 8, false⟩ .z) ⟨.fn, 1, 8, false⟩ (.n (.n .z ⟨.struct [(0, 17), (1, 17), (2, 17), (3, 9)], 4, 40, false⟩ .z) ⟨.fn, 1, 8, false⟩ .z)))) ⟨.int
  .i64, 1, 8, false⟩ (.n (.n (.n (.n (.n .z ⟨.fn, 1, 8, false⟩ .z) ⟨.fn, 1, 8, false⟩ (.n .z ⟨.struct [(0, 12), (1, 12), (2, 187), (3, 188), (4, 5), (5, 5), (6, 189), (7, 190), (8,
  191), (9, 192), (10, 193)], 11, 48, false⟩ .z)) ⟨.int .u64, 1, 8, false⟩ (.n (.n .z ⟨.fn, 1, 8, false⟩ .z) ⟨.struct [(0, 30), (5, 3), (6, 3), (7, 25), (8, 3), (9, 27)], 10, 112,
  false⟩ .z)) ⟨.struct [(0, 17)], 1, 8, false⟩ (.n (.n (.n .z ⟨.fn, 1, 8, false⟩ .z) ⟨.fn, 1, 8, false⟩ .z) ⟨.fn, 1, 8, false⟩ (.n (.n .z ⟨.fn, 1, 8, false⟩ .z) ⟨.fn, 1, 8, false⟩
  .z))) ⟨.str, 1, 16, false⟩ (.n (.n (.n (.n .z ⟨.fn, 1, 8, false⟩ .z) ⟨.fn, 1, 8, false⟩ .z) ⟨.other, 1, 0, false⟩ (.n (.n .z ⟨.fn, 1, 8, false⟩ .z) ⟨.fn, 1, 8, false⟩ .z)) ⟨.slice
  50, 1, 24, false⟩ (.n (.n (.n .z ⟨.fn, 1, 8, false⟩ .z) ⟨.fn, 1, 8, false⟩ .z) ⟨.fn, 1, 8, false⟩ (.n (.n .z ⟨.int .u32, 1, 4, false⟩ .z) ⟨.fn, 1, 8, false⟩ .z))))) ⟨.fn, 1, 8,
  false⟩ (.n (.n (.n (.n (.n (.n .z ⟨.fn, 1, 8, false⟩ .z) ⟨.struct [(0, 63), (1, 64)], 2, 48, false⟩ (.n .z ⟨.int .i32, 1, 4, false⟩ .z)) ⟨.fn, 1, 8, false⟩ (.n (.n .z ⟨.fn, 1, 8,
  false⟩ .z) ⟨.ptr, 1, 8, false⟩ .z)) ⟨.ptr, 1, 8, false⟩ (.n (.n (.n .z ⟨.fn, 1, 8, false⟩ .z) ⟨.fn, 1, 8, false⟩ .z) ⟨.struct [(0, 3), (1, 3), (2, 3), (3, 3), (4, 48), (13, 3),
  (14, 3)], 15, 120, true⟩ (.n (.n .z ⟨.fn, 1, 8, false⟩ .z) ⟨.fn, 1, 8, false⟩ .z))) ⟨.str, 1, 16, false⟩ (.n (.n (.n (.n .z ⟨.ptr, 1, 8, false⟩ .z) ⟨.fn, 1, 8, false⟩ .z) ⟨.slice
  26, 1, 24, false⟩ (.n (.n .z ⟨.fn, 1, 8, false⟩ .z) ⟨.fn, 1, 8, false⟩ .z)) ⟨.slice 48, 1, 24, false⟩ (.n (.n (.n .z ⟨.struct [(0, 24), (5, 3), (6, 3), (7, 25), (8, 3)], 9, 88,
  false⟩ .z) ⟨.fn, 1, 8, false⟩ .z) ⟨.fn, 1, 8, false⟩ (.n (.h .z .z) ⟨.fn, 1, 8, false⟩ .z)))) ⟨.int .u8, 1, 1, false⟩ (.n (.n (.n (.n (.n .z ⟨.other, 1, 0, false⟩ .z) ⟨.fn, 1, 8,
  false⟩ .z) ⟨.struct [(0, 3), (1, 25)], 2, 32, false⟩ (.n (.n .z ⟨.fn, 1, 8, false⟩ .z) ⟨.fn, 1, 8, false⟩ .z)) ⟨.int .i32, 1, 4, false⟩ (.n (.n (.n .z ⟨.fn, 1, 8, false⟩ .z) ⟨.fn,
  1, 8, false⟩ .z) ⟨.fn, 1, 8, false⟩ (.n (.n .z ⟨.fn, 1, 8, false⟩ .z) ⟨.fn, 1, 8, false⟩ .z))) ⟨.struct [(0, 9), (1, 12)], 2, 24, false⟩ (.n (.n (.n (.n .z ⟨.fn, 1, 8, false⟩ .z)
  ⟨.fn, 1, 8, false⟩ .z) ⟨.fn, 1, 8, false⟩ (.n (.n .z ⟨.fn, 1, 8, false⟩ .z) ⟨.fn, 1, 8, false⟩ .z)) ⟨.struct [(0, 24)], 5, 40, true⟩ (.n (.n (.n .z ⟨.fn, 1, 8, false⟩ .z) ⟨.fn, 1,
  8, false⟩ .z) ⟨.struct [(0, 3), (1, 3), (2, 4)], 3, 24, true⟩ (.n (.n .z ⟨.int .u8, 1, 1, false⟩ .z) ⟨.fn, 1, 8, false⟩ .z)))))) ⟨.other, 1, 0, false⟩ (.n (.n (.n (.n (.n (.n (.n
  .z ⟨.fn, 1, 8, false⟩ .z) ⟨.slice 27, 1, 24, false⟩ (.n .z ⟨.int .i32, 1, 4, false⟩ .z)) ⟨.other, 1, 0, false⟩ (.n (.n .z ⟨.fn, 1, 8, false⟩ .z) ⟨.fn, 1, 8, false⟩ .z)) ⟨.ptr, 1,
  8, false⟩ (.n (.n (.n .z ⟨.fn, 1, 8, false⟩ .z) ⟨.fn, 1, 8, false⟩ .z) ⟨.struct [(0, 3), (1, 3), (2, 3), (3, 3), (4, 3), (5, 3), (6, 3), (7, 3), (8, 3)], 9, 72, true⟩ (.n (.n .z
  ⟨.fn, 1, 8, false⟩ .z) ⟨.fn, 1, 8, false⟩ .z))) ⟨.struct [(0, 2), (1, 3), (2, 4), (3, 6)], 4, 24, false⟩ (.n (.n (.n (.n .z ⟨.fn, 1, 8, false⟩ .z) ⟨.fn, 1, 8, false⟩ .z) ⟨.fn, 1,
  8, false⟩ (.n (.n .z ⟨.fn, 1, 8, false⟩ .z) ⟨.fn, 1, 8, false⟩ .z)) ⟨.struct [(0, 3), (1, 3), (2, 3), (3, 3), (4, 22)], 5, 40, true⟩ (.n (.n (.n .z ⟨.struct [(0, 24), (5, 3), (6,
  3), (7, 25), (8, 3)], 9, 88, false⟩ .z) ⟨.fn, 1, 8, false⟩ .z) ⟨.fn, 1, 8, false⟩ (.n (.h .z .z) ⟨.fn, 1, 8, false⟩ .z)))) ⟨.bool, 1, 1, false⟩ (.n (.n (.n (.n (.n .z ⟨.fn, 1, 8,
  false⟩ .z) ⟨.other, 1, 0, false⟩ (.n .z ⟨.other, 1, 8, false⟩ .z)) ⟨.fn, 1, 8, false⟩ (.n (.n .z ⟨.fn, 1, 8, false⟩ .z) ⟨.struct [(0, 30), (5, 3), (6, 3), (7, 25), (8, 3), (9,
  27)], 10, 112, false⟩ .z)) ⟨.other, 1, 16, false⟩ (.n (.n (.n .z ⟨.fn, 1, 8, false⟩ .z) ⟨.fn, 1, 8, false⟩ .z) ⟨.slice 3, 1, 24, false⟩ (.n (.n .z ⟨.fn, 1, 8, false⟩ .z) ⟨.fn, 1,
  8, false⟩ .z))) ⟨.int .u64, 1, 8, false⟩ (.n (.n (.n (.n .z ⟨.fn, 1, 8, false⟩ .z) ⟨.fn, 1, 8, false⟩ .z) ⟨.fn, 1, 8, false⟩ (.n (.n .z ⟨.fn, 1, 8, false⟩ .z) ⟨.fn, 1, 8, false⟩
  .z)) ⟨.fn, 1, 8, false⟩ (.n (.n (.n .z ⟨.fn, 1, 8, false⟩ .z) ⟨.fn, 1, 8, false⟩ .z) ⟨.struct [(0, 3), (1, 3), (2, 4)], 3, 24, false⟩ (.n (.n .z ⟨.int .u8, 1, 1, false⟩ .z) ⟨.fn,
  1, 8, false⟩ .z))))) ⟨.int .i64, 1, 8, false⟩ (.n (.n (.n (.n (.n (.n .z ⟨.fn, 1, 8, false⟩ .z) ⟨.struct [(0, 63), (1, 64)], 2, 48, false⟩ (.n .z ⟨.struct [(0, 12), (1, 12), (2,
  187), (3, 188), (4, 5), (5, 5), (6, 189), (7, 190), (8, 191), (9, 192), (10, 193)], 11, 48, false⟩ .z)) ⟨.fn, 1, 8, false⟩ (.n (.n .z ⟨.fn, 1, 8, false⟩ .z) ⟨.fn, 1, 8, false⟩ .z))
  ⟨.struct [(0, 17)], 1, 8, false⟩ (.n (.n (.n .z ⟨.fn, 1, 8, false⟩ .z) ⟨.fn, 1, 8, false⟩ .z) ⟨.struct [(0, 3), (1, 3), (2, 3), (3, 3), (4, 48), (13, 3), (14, 3)], 15, 120, true⟩
  (.n (.n .z ⟨.fn, 1, 8, false⟩ .z) ⟨.fn, 1, 8, false⟩ .z))) ⟨.str, 1, 16, false⟩ (.n (.n (.n (.n .z ⟨.fn, 1, 8, false⟩ .z) ⟨.fn, 1, 8, false⟩ .z) ⟨.fn, 1, 8, false⟩ (.n (.n .z ⟨.fn,
  1, 8, false⟩ .z) ⟨.fn, 1, 8, false⟩ .z)) ⟨.slice 61, 1, 24, false⟩ (.n (.n (.n .z ⟨.fn, 1, 8, false⟩ .z) ⟨.other, 1, 0, false⟩ .z) ⟨.fn, 1, 8, false⟩ (.n (.h .z .z) ⟨.fn, 1, 8,
  false⟩ .z)))) ⟨.int .u8, 1, 1, false⟩ (.n (.n (.n (.n (.n .z ⟨.fn, 1, 8, false⟩ .z) ⟨.fn, 1, 8, false⟩ .z) ⟨.struct [(0, 3), (1, 25)], 2, 32, false⟩ (.n (.n .z ⟨.fn, 1, 8, false⟩
  .z) ⟨.fn, 1, 8, false⟩ .z)) ⟨.int .u64, 1, 8, false⟩ (.n (.n (.n .z ⟨.ptr, 1, 8, false⟩ .z) ⟨.fn, 1, 8, false⟩ .z) ⟨.fn, 1, 8, false⟩ (.n (.n .z ⟨.struct [(0, 17), (1, 17), (2,
  17), (3, 9)], 4, 40, false⟩ .z) ⟨.fn, 1, 8, false⟩ .z))) ⟨.struct [(0, 9), (1, 12)], 2, 24, false⟩ (.n (.n (.n (.n .z ⟨.fn, 1, 8, false⟩ .z) ⟨.fn, 1, 8, false⟩ .z) ⟨.fn, 1, 8,
  false⟩ (.n (.n .z ⟨.fn, 1, 8, false⟩ .z) ⟨.fn, 1, 8, false⟩ .z)) ⟨.struct [(0, 24)], 5, 40, false⟩ (.n (.n (.n .z ⟨.fn, 1, 8, false⟩ .z) ⟨.fn, 1, 8, false⟩ .z) ⟨.fn, 1, 8, false⟩
  (.n (.n .z ⟨.fn, 1, 8, false⟩ .z) ⟨.fn, 1, 8, false⟩ .z)))))))
/-- joust/joustlaw09.RegionRight -/
noncomputable def fi3 : FI := ⟨codeOf Tryz.f3, [.tmp 12], .pure, [([0, 1, 0, 1, 1, 1, 1, 1, 1, 1, 1, 1, 1, 1], [1, 6, 12, 15, 19, 21])], [(9, .one 1 (.one 3 (.one 4 (.one 6 (.one 0 (.one 2 (.one 5 (.two 7 (.one 8 (.one 9 (.one 10 (.one 11 (.one 12 (.one 13 (.one 14 (.one 15 (.done))))))))) 12 (.one 7 (.one 8 (.one 9 (.one 10 (.one 11 (.one 13 (.one 14 (.one 15 (.done))))))))))))))))), (17, .one 1 (.one 2 (.one 3 (.one 0 (.one 4 (.one 5 (.one 6 (.one 7 (.one 8 (.one 9 (.one 10 (.one 11 (.one 13 (.one 12 (.one 14 (.one 15 (.one 16 (.one 17 (.one 18 (.one 19 (.one 20 (.one 22 (.one 21 (.one 23 (.one 24 (.one 25 (.one 26 (.one 28 (.one 30 (.one 31 (.one 32 (.one 33 (.one 27 (.one 34 (.one 29 (.one 35 (.one 36 (.one 37 (.one 38 (.one 39 (.one 40 (.one 41 (.one 42 (.one 43 (.one 44 (.one 46 (.one 47 (.one 48 (.one 49 (.one 45 (.one 50 (.one 51 (.one 52 (.one 53 (.done)))))))))))))))))))))))))))))))))))))))))))))))))))))))], [], false⟩
/-- joust/joustlaw09.RegionBlasts -/
noncomputable def fi4 : FI := ⟨codeOf Tryz.f4, [.tmp 12], .pure, [([0, 1, 0, 1, 1, 1, 1, 1, 1, 1, 1], [1, 5, 6, 13, 15, 16, 17, 18]), ([0, 1, 0, 1, 1, 1, 1, 1, 1, 1, 1, 1, 1], [1, 5, 6, 13, 15, 16, 19, 20])], [(19, .one 0 (.one 1 (.one 2 (.one 3 (.one 4 (.one 5 (.one 6 (.one 7 (.one 8 (.one 9 (.one 11 (.one 12 (.one 13 (.one 14 (.one 15 (.one 16 (.one 10 (.one 17 (.one 18 (.one 19 (.one 20 (.one 21 (.done))))))))))))))))))))))), (20, .one 1 (.one 3 (.one 6 (.one 0 (.one 2 (.one 4 (.two 5 (.two 7 (.one 8 (.one 9 (.one 10 (.one 11 (.one 12 (.one 13 (.one 14 (.one 15 (.done))))))))) 12 (.one 7 (.one 8 (.one 9 (.one 10 (.one 11 (.one 13 (.one 14 (.one 15 (.done)))))))))) 12 (.one 5 (.one 7 (.one 8 (.one 9 (.one 10 (.one 11 (.one 13 (.one 14 (.one 15 (.done))))))))))))))))), (21, .one 1 (.one 3 (.one 6 (.one 0 (.one 2 (.one 4 (.two 5 (.two 7 (.one 8 (.one 9 (.one 10 (.one 11 (.one 12 (.one 13 (.one 14 (.one 15 (.done))))))))) 12 (.one 7 (.one 8 (.one 9 (.one 10 (.one 11 (.one 13 (.one 14 (.one 15 (.done)))))))))) 12 (.one 5 (.one 7 (.one 8 (.one 9 (.one 10 (.one 11 (.one 13 (.one 14 (.one 15 (.done)))))))))))))))))], [([0, 1, 0, 1, 1, 1, 1, 1, 1, 1, 1], [16])], false⟩
/-- joust/joustlaw09.RegionKeeps -/
noncomputable def fi5 : FI := ⟨codeOf Tryz.f5, [.tmp 12], .pure, [([0, 1, 0, 1, 0, 0, 1, 0, 0, 1, 0, 1, 1, 1, 1, 1, 1, 1, 1, 1, 1, 1, 1, 1], [20, 21, 24, 25, 26]), ([0, 1, 0, 1, 1, 1, 1, 1, 1, 1, 1, 1, 1, 1], [17, 18, 20, 21, 22]), ([0, 1, 0, 1, 1, 1, 1, 1, 1, 1, 1, 1, 1, 1, 1], [18, 20, 21, 23]), ([0, 1, 0, 1, 1, 1, 1, 1, 1, 1, 1, 1, 1, 1, 1, 1], [12, 20, 21, 24])], [(8, .one 1 (.one 4 (.one 9 (.one 0 (.one 2 (.one 3 (.two 5 (.two 6 (.one 7 (.one 8 (.two 10 (.one 11 (.one 12 (.one 13 (.one 14 (.one 15 (.one 16 (.one 17 (.one 18 (.done))))))))) 15 (.one 10 (.one 11 (.one 12 (.one 13 (.one 14 (.one 16 (.one 17 (.one 18 (.done)))))))))))) 15 (.one 6 (.one 7 (.one 8 (.one 10 (.one 11 (.one 12 (.one 13 (.one 14 (.one 16 (.one 17 (.one 18 (.done))))))))))))) 15 (.one 5 (.one 6 (.one 7 (.one 8 (.one 10 (.one 11 (.one 12 (.one 13 (.one 14 (.one 16 (.one 17 (.one 18 (.done)))))))))))))))))))), (30, .one 0 (.one 1 (.one 2 (.one 4 (.one 5 (.one 6 (.one 3 (.one 7 (.one 8 (.done))))))))))], [([0, 1, 0, 1, 1, 1, 1, 1, 1, 1, 1, 1, 1, 1], [21]), ([0, 1, 0, 1, 1, 1, 1, 1, 1, 1, 1, 1, 1, 1, 1], [21])], false⟩
/-- joust/joustlaw09.RegionOthers -/
noncomputable def fi6 : FI := ⟨codeOf Tryz.f6, [.tmp 12], .pure, [([0, 1, 0, 1, 1, 1, 1, 1, 1, 1, 1, 1], [1, 13, 15, 16, 17, 18, 19])], [(13, .one 0 (.one 1 (.one 2 (.one 3 (.one 6 (.one 7 (.one 8 (.one 9 (.one 4 (.one 5 (.one 10 (.one 11 (.one 12 (.one 13 (.one 14 (.one 15 (.done)))))))))))))))))], [], false⟩
/-- joust/joustlaw10.ArenaSteps -/
noncomputable def fi7 : FI := ⟨codeOf Tryz.f7, [.tmp 8], .pure, [], [], [], false⟩
/-- joust/joustlaw10.ArenaSplits -/
noncomputable def fi8 : FI := ⟨codeOf Tryz.f8, [.tmp 4], .pure, [([0, 1, 0, 1, 1, 1, 0, 0, 1, 0, 0, 1, 0, 1, 1, 1, 1, 1, 1, 1, 1], [2, 4, 5, 7, 9, 10, 11, 12, 13, 14]), ([0, 1, 0, 1, 1, 1, 1, 1, 1, 1, 1], [2, 4, 5, 7, 9, 10, 11, 12])], [(12, .one 2 (.one 3 (.one 4 (.one 0 (.one 1 (.one 5 (.one 6 (.one 7 (.one 8 (.one 9 (.one 10 (.one 11 (.done))))))))))))), (19, .one 1 (.one 2 (.one 3 (.one 4 (.one 6 (.one 7 (.one 8 (.one 11 (.one 12 (.one 0 (.one 5 (.one 9 (.one 10 (.two 13 (.two 14 (.one 15 (.one 16 (.one 17 (.one 18 (.one 19 (.one 20 (.one 21 (.one 22 (.done))))))))) 19 (.one 14 (.one 15 (.one 16 (.one 17 (.one 18 (.one 20 (.one 21 (.one 22 (.done)))))))))) 19 (.one 13 (.one 14 (.one 15 (.one 16 (.one 17 (.one 18 (.one 20 (.one 21 (.one 22 (.done))))))))))))))))))))))))], [], false⟩
/-- joust/joustlaw10.ArenaRuns -/
noncomputable def fi9 : FI := ⟨codeOf Tryz.f9, [.tmp 8], .pure, [], [(11, .one 0 (.one 1 (.one 2 (.one 3 (.one 4 (.one 5 (.one 6 (.one 7 (.one 8 (.one 9 (.one 10 (.one 11 (.one 12 (.one 13 (.one 14 (.one 15 (.one 16 (.one 17 (.one 18 (.one 19 (.one 20 (.one 21 (.one 22 (.one 24 (.one 23 (.one 25 (.one 26 (.one 27 (.one 28 (.one 30 (.one 32 (.one 35 (.one 37 (.one 29 (.one 31 (.one 34 (.one 36 (.one 33 (.one 38 (.one 39 (.one 40 (.one 41 (.done)))))))))))))))))))))))))))))))))))))))))))], [], false⟩
/-- joust/joustlaw10.ArenaPlayers -/
noncomputable def fi10 : FI := ⟨codeOf Tryz.f10, [.tmp 4], .pure, [([0, 1, 0, 1, 1, 1, 1, 1, 1], [2, 4, 7, 8])], [(2, .one 2 (.one 0 (.one 1 (.two 3 (.two 4 (.one 5 (.one 6 (.one 7 (.one 8 (.one 9 (.one 10 (.done))))))) 8 (.one 4 (.one 5 (.one 6 (.one 7 (.one 9 (.one 10 (.done)))))))) 8 (.one 3 (.one 4 (.one 5 (.one 6 (.one 7 (.one 9 (.one 10 (.done)))))))))))), (11, .one 0 (.one 1 (.one 2 (.one 3 (.one 4 (.one 5 (.one 6 (.one 8 (.one 9 (.one 10 (.one 11 (.one 12 (.one 7 (.one 13 (.one 14 (.one 15 (.one 16 (.one 17 (.one 18 (.one 19 (.one 20 (.one 23 (.one 24 (.one 21 (.one 22 (.one 25 (.one 26 (.one 27 (.one 28 (.one 29 (.one 30 (.one 31 (.one 32 (.one 33 (.one 34 (.one 35 (.one 36 (.one 37 (.one 38 (.one 40 (.one 41 (.one 39 (.one 42 (.one 43 (.one 44 (.done))))))))))))))))))))))))))))))))))))))))))))))], [], false⟩
/-- joust/joustlaw10.ArenaPrefix -/
noncomputable def fi11 : FI := ⟨codeOf Tryz.f11, [.tmp 6], .pure, [([0, 1, 0, 1, 1, 1, 1, 1], [3, 6, 7, 8, 9, 10])], [(4, .one 1 (.one 2 (.one 3 (.one 0 (.two 4 (.one 5 (.one 6 (.one 7 (.one 8 (.one 9 (.one 10 (.done))))))) 8 (.one 4 (.one 5 (.one 6 (.one 7 (.one 9 (.one 10 (.done)))))))))))), (10, .one 2 (.one 3 (.one 4 (.one 0 (.one 1 (.one 5 (.one 6 (.one 7 (.one 8 (.one 9 (.one 10 (.one 11 (.done))))))))))))), (12, .one 0 (.one 2 (.one 3 (.one 4 (.two 1 (.one 5 (.one 6 (.one 7 (.one 8 (.done))))) 5 (.two 1 (.one 6 (.one 7 (.one 8 (.done)))) 6 (.one 1 (.one 7 (.one 8 (.done))))))))))], [], false⟩
/-- joust/joustlaw26.GhostTells -/
noncomputable def fi12 : FI := ⟨codeOf Tryz.f12, [.tmp 12], .pure, [([0, 1, 0, 1, 1, 1, 0, 1, 0, 1], [2, 3, 4, 6, 13, 14, 15])], [], [], false⟩
/-- joust/joustlaw26.GhostPrefix -/
noncomputable def fi13 : FI := ⟨codeOf Tryz.f13, [.tmp 10], .pure, [([0, 1, 0, 1, 0, 0, 1, 0, 0, 1, 0, 1, 1, 1, 1, 1, 1], [2, 3, 4, 5, 11, 12, 13, 14, 15, 16, 17, 18, 19]), ([0, 1, 0, 1, 1, 1, 1, 1, 1], [2, 3, 4, 5, 11, 12, 13, 14, 15])], [(25, .one 1 (.one 2 (.one 3 (.one 0 (.two 4 (.one 5 (.one 6 (.one 7 (.one 8 (.one 9 (.one 10 (.done))))))) 8 (.one 4 (.one 5 (.one 6 (.one 7 (.one 9 (.one 10 (.done))))))))))))], [([0, 1, 0, 1, 0, 0, 1, 0, 0, 1, 0, 1, 1, 1, 1, 1, 1], [16, 17, 18]), ([0, 1, 0, 1, 1, 1, 1, 1, 1], [12, 13, 14])], false⟩
/-- joust/joustlaw26.GhostRefuses -/
noncomputable def fi14 : FI := ⟨codeOf Tryz.f14, [.tmp 4], .pure, [], [], [], false⟩
/-- joust/joustlaw26.GhostSplit -/
noncomputable def fi15 : FI := ⟨codeOf Tryz.f15, [.tmp 6], .pure, [([0, 0, 1, 1, 1, 1, 1, 1, 1, 1], [2, 3, 12, 13, 14]), ([0, 1, 0, 1, 0, 0, 1, 0, 0, 1, 0, 1, 1, 1, 1], [1, 2, 3, 7, 8, 9, 10, 11]), ([0, 1, 0, 1, 1, 1, 1], [1, 2, 3, 7, 8, 9]), ([0, 1, 0, 1, 1, 1, 1, 1, 1, 1, 1, 1, 1, 1, 1], [3, 12, 13, 15, 16, 17, 18, 19])], [(18, .one 1 (.one 2 (.one 3 (.one 0 (.two 4 (.one 5 (.one 6 (.one 7 (.one 8 (.one 9 (.one 10 (.done))))))) 8 (.one 4 (.one 5 (.one 6 (.one 7 (.one 9 (.one 10 (.done))))))))))))], [([0, 0, 1, 1, 1, 1, 1, 1, 1, 1], [14]), ([0, 1, 0, 1, 0, 0, 1, 0, 0, 1, 0, 1, 1, 1, 1], [10]), ([0, 1, 0, 1, 1, 1, 1], [8])], false⟩
/-- joust/joustplay.Config -/
noncomputable def fi16 : FI := ⟨codeOf Tryz.f16, [.cell 2 24], .pure, [], [], [], false⟩
/-- joust/grid.New -/
noncomputable def fi17 : FI := ⟨codeOf Tryz.f17, [.cell 2 30, .tmp 3], .pure, [], [], [], false⟩
/-- joust/joustlaw09.awake -/
noncomputable def fi18 : FI := ⟨codeOf Tryz.f18, [.tmp 0], .pure, [], [(2, .one 1 (.one 0 (.two 2 (.two 3 (.one 4 (.one 5 (.one 6 (.one 7 (.one 8 (.one 9 (.one 10 (.one 11 (.done))))))))) 8 (.one 3 (.one 4 (.one 5 (.one 6 (.one 7 (.one 9 (.one 10 (.one 11 (.done)))))))))) 8 (.one 2 (.one 3 (.one 4 (.one 5 (.one 6 (.one 7 (.one 9 (.one 10 (.one 11 (.done)))))))))))))], [], false⟩
/-- (joust/grid.Grid).Regions -/
noncomputable def fi19 : FI := ⟨codeOf Tryz.f19, [.tmp 2], .pure, [], [], [], false⟩
/-- joust/joustplay.Region -/
noncomputable def fi20 : FI := ⟨codeOf Tryz.f20, [.cell 8 38], .pure, [([0, 1, 0, 1, 1, 1], [3, 4, 8, 9, 10, 11, 12])], [(9, .one 0 (.one 3 (.one 9 (.one 11 (.one 13 (.one 19 (.one 1 (.one 2 (.one 4 (.one 5 (.one 6 (.one 7 (.one 8 (.one 10 (.one 12 (.one 14 (.one 15 (.one 16 (.one 17 (.one 18 (.one 20 (.one 21 (.one 22 (.one 23 (.one 24 (.one 25 (.done)))))))))))))))))))))))))))], [], false⟩
/-- joust/joustplay.Inbox -/
noncomputable def fi21 : FI := ⟨codeOf Tryz.f21, [.tmp 8], .pure, [([0, 1, 0, 1, 1], [1, 2, 3, 4, 9, 10])], [(10, .one 0 (.one 3 (.one 9 (.one 12 (.one 1 (.one 2 (.one 4 (.one 5 (.one 6 (.one 7 (.one 8 (.one 10 (.one 11 (.one 18 (.two 13 (.one 14 (.one 15 (.one 16 (.one 17 (.one 19 (.one 20 (.one 21 (.done)))))))) 19 (.one 13 (.one 14 (.one 15 (.one 16 (.one 17 (.one 20 (.one 21 (.done)))))))))))))))))))))))], [([0, 1, 0, 1, 1], [9])], false⟩
/-- joust/joustplay.Frames -/
noncomputable def fi22 : FI := ⟨codeOf Tryz.f22, [.tmp 6], .pure, [([0, 1, 0, 1, 0, 0, 1, 0, 0, 1, 0, 1, 1], [1, 2, 3, 7, 8, 9, 10]), ([0, 1, 0, 1, 1], [1, 2, 3, 7, 8])], [], [([0, 1, 0, 1, 1], [7])], false⟩
/-- joust/region.Step -/
noncomputable def fi23 : FI := ⟨codeOf Tryz.f23, [.cell 10 38, .tmp 11, .tmp 12], .pure, [], [(4, .one 1 (.one 2 (.one 5 (.one 7 (.one 0 (.one 3 (.one 4 (.one 6 (.one 8 (.one 9 (.one 10 (.one 11 (.done))))))))))))), (11, .one 0 (.one 3 (.one 4 (.one 5 (.one 8 (.one 9 (.one 10 (.one 1 (.one 2 (.one 6 (.one 7 (.one 11 (.one 12 (.one 13 (.one 14 (.one 15 (.one 16 (.done))))))))))))))))))], [], false⟩
/-- joust/joustref09.Right -/
noncomputable def fi24 : FI := ⟨codeOf Tryz.f24, [.tmp 6], .pure, [([0, 1, 0, 1, 1], [1, 3, 5, 6, 7])], [], [], false⟩
/-- joust/joustref05.Cross -/
noncomputable def fi25 : FI := ⟨codeOf Tryz.f25, [.tmp 4], .pure, [], [(1, .one 1 (.one 0 (.one 2 (.one 3 (.one 4 (.one 5 (.one 7 (.one 10 (.one 6 (.one 8 (.one 11 (.one 9 (.one 12 (.one 13 (.one 14 (.one 15 (.one 16 (.one 17 (.one 18 (.one 19 (.one 20 (.done)))))))))))))))))))))), (5, .one 1 (.one 0 (.one 2 (.one 3 (.one 4 (.one 6 (.one 7 (.one 9 (.one 10 (.one 13 (.one 5 (.one 8 (.one 11 (.one 14 (.one 12 (.one 15 (.one 16 (.one 17 (.one 18 (.one 19 (.one 20 (.one 21 (.one 22 (.one 23 (.one 24 (.one 25 (.one 26 (.one 27 (.one 28 (.one 30 (.one 29 (.one 31 (.one 32 (.one 33 (.one 34 (.done))))))))))))))))))))))))))))))))))))], [], false⟩
/-- joust/jousthelp.In[int] -/
noncomputable def fi26 : FI := ⟨codeOf Tryz.f26, [.tmp 4], .pure, [([0, 1, 0, 1], [0, 1, 4, 5])], [], [], false⟩
/-- joust/joustref03.Near -/
noncomputable def fi27 : FI := ⟨codeOf Tryz.f27, [.tmp 4], .pure, [([0, 1, 0, 1, 1], [1, 2, 5, 6])], [(5, .one 0 (.one 1 (.one 4 (.one 5 (.one 9 (.one 10 (.one 13 (.one 14 (.one 2 (.one 3 (.one 6 (.one 7 (.one 8 (.one 18 (.one 11 (.one 12 (.one 15 (.one 16 (.one 17 (.one 19 (.done)))))))))))))))))))))], [([0, 1, 0, 1, 1], [5])], false⟩
/-- joust/joustref05.Less -/
noncomputable def fi28 : FI := ⟨codeOf Tryz.f28, [.tmp 4], .pure, [], [], [], false⟩
/-- joust/jousthelp.Region -/
noncomputable def fi29 : FI := ⟨codeOf Tryz.f29, [.tmp 4], .pure, [], [], [], false⟩
/-- joust/jousthelp.Plain[joust/api.Cross] -/
noncomputable def fi30 : FI := ⟨codeOf Tryz.f30, [.tmp 4], .pure, [], [], [], false⟩
/-- joust/region.Present -/
noncomputable def fi31 : FI := ⟨codeOf Tryz.f31, [.tmp 8], .pure, [([0, 1, 0, 1, 1], [9, 16, 17, 18])], [], [([0, 1, 0, 1, 1], [9])], false⟩
/-- joust/joustplay.World -/
noncomputable def fi32 : FI := ⟨codeOf Tryz.f32, [.cell 6 66], .pure, [], [(1, .one 2 (.one 3 (.one 0 (.one 1 (.two 4 (.two 5 (.one 6 (.one 7 (.one 8 (.one 9 (.one 10 (.one 11 (.done))))))) 9 (.one 5 (.one 6 (.one 7 (.one 8 (.one 10 (.one 11 (.done)))))))) 9 (.one 4 (.one 5 (.one 6 (.one 7 (.one 8 (.one 10 (.one 11 (.done)))))))))))))], [], false⟩
/-- joust/joustlaw10.awake -/
noncomputable def fi33 : FI := ⟨codeOf Tryz.f33, [.tmp 0], .pure, [], [], [], false⟩
/-- joust/arena.Step -/
noncomputable def fi34 : FI := ⟨codeOf Tryz.f34, [.cell 6 66, .tmp 7], .pure, [([0, 1, 0, 1, 1, 1, 1], [2, 4, 6, 7, 8, 10, 43, 44, 45])], [(4, .one 0 (.one 1 (.one 2 (.one 3 (.one 4 (.one 5 (.one 6 (.one 7 (.one 8 (.one 9 (.one 10 (.one 11 (.one 12 (.one 13 (.one 14 (.done)))))))))))))))), (10, .one 1 (.one 3 (.one 5 (.one 7 (.one 0 (.one 2 (.one 4 (.one 6 (.two 8 (.two 9 (.one 10 (.one 11 (.one 12 (.one 13 (.one 14 (.one 15 (.one 16 (.one 17 (.done))))))))) 14 (.one 9 (.one 10 (.one 11 (.one 12 (.one 13 (.one 15 (.one 16 (.one 17 (.done)))))))))) 14 (.one 8 (.one 9 (.one 10 (.one 11 (.one 12 (.one 13 (.one 15 (.one 16 (.one 17 (.done))))))))))))))))))), (13, .one 0 (.one 5 (.one 7 (.one 1 (.one 2 (.alt 3 (.alt 4 (.one 6 (.one 10 (.one 8 (.one 9 (.one 11 (.one 12 (.one 13 (.done)))))))) (.alt 6 (.two 4 (.one 10 (.one 8 (.one 9 (.one 11 (.one 12 (.one 13 (.done))))))) 8 (.one 4 (.one 10 (.one 9 (.one 11 (.one 12 (.one 13 (.done)))))))) (.one 8 (.two 4 (.one 6 (.one 10 (.one 9 (.one 11 (.one 12 (.one 13 (.done))))))) 6 (.one 4 (.one 10 (.one 9 (.one 11 (.one 12 (.one 13 (.done))))))))))) (.alt 6 (.two 3 (.two 4 (.one 10 (.one 8 (.one 9 (.one 11 (.one 12 (.one 13 (.done))))))) 8 (.one 4 (.one 10 (.one 9 (.one 11 (.one 12 (.one 13 (.done)))))))) 8 (.one 3 (.one 4 (.one 10 (.one 9 (.one 11 (.one 12 (.one 13 (.done))))))))) (.one 8 (.two 3 (.two 4 (.one 6 (.one 10 (.one 9 (.one 11 (.one 12 (.one 13 (.done))))))) 6 (.one 4 (.one 10 (.one 9 (.one 11 (.one 12 (.one 13 (.done)))))))) 6 (.one 3 (.one 4 (.one 10 (.one 9 (.one 11 (.one 12 (.one 13 (.done)))))))))))))))))], [], false⟩
/-- joust/joustref09.Next -/
noncomputable def fi35 : FI := ⟨codeOf Tryz.f35, [.cell 6 66, .tmp 7], .pure, [([0, 1, 0, 1, 1, 1, 1, 1], [2, 3, 4, 6, 7, 8, 9, 10])], [(10, .one 1 (.one 2 (.one 4 (.one 7 (.one 9 (.one 11 (.one 0 (.one 3 (.one 5 (.one 6 (.one 8 (.one 10 (.two 12 (.two 13 (.one 14 (.one 15 (.one 16 (.one 17 (.one 18 (.one 19 (.one 20 (.one 21 (.done))))))))) 18 (.one 13 (.one 14 (.one 15 (.one 16 (.one 17 (.one 19 (.one 20 (.one 21 (.done)))))))))) 18 (.one 12 (.one 13 (.one 14 (.one 15 (.one 16 (.one 17 (.one 19 (.one 20 (.one 21 (.done))))))))))))))))))))))), (13, .one 0 (.one 5 (.one 7 (.one 1 (.one 2 (.alt 3 (.alt 4 (.one 6 (.one 10 (.one 8 (.one 9 (.one 11 (.one 12 (.one 13 (.done)))))))) (.alt 6 (.two 4 (.one 10 (.one 8 (.one 9 (.one 11 (.one 12 (.one 13 (.done))))))) 8 (.one 4 (.one 10 (.one 9 (.one 11 (.one 12 (.one 13 (.done)))))))) (.one 8 (.two 4 (.one 6 (.one 10 (.one 9 (.one 11 (.one 12 (.one 13 (.done))))))) 6 (.one 4 (.one 10 (.one 9 (.one 11 (.one 12 (.one 13 (.done))))))))))) (.alt 6 (.two 3 (.two 4 (.one 10 (.one 8 (.one 9 (.one 11 (.one 12 (.one 13 (.done))))))) 8 (.one 4 (.one 10 (.one 9 (.one 11 (.one 12 (.one 13 (.done)))))))) 8 (.one 3 (.one 4 (.one 10 (.one 9 (.one 11 (.one 12 (.one 13 (.done))))))))) (.one 8 (.two 3 (.two 4 (.one 6 (.one 10 (.one 9 (.one 11 (.one 12 (.one 13 (.done))))))) 6 (.one 4 (.one 10 (.one 9 (.one 11 (.one 12 (.one 13 (.done)))))))) 6 (.one 3 (.one 4 (.one 10 (.one 9 (.one 11 (.one 12 (.one 13 (.done)))))))))))))))))], [], false⟩
/-- joust/jousthelp.World -/
noncomputable def fi36 : FI := ⟨codeOf Tryz.f36, [.tmp 4], .pure, [], [], [], false⟩
/-- joust/arena.Begin -/
noncomputable def fi37 : FI := ⟨codeOf Tryz.f37, [.cell 2 66, .tmp 3], .pure, [([0, 1, 0, 1, 1, 1, 1], [2, 4, 6, 7])], [(4, .one 0 (.one 3 (.two 1 (.alt 2 (.two 4 (.two 5 (.one 6 (.one 7 (.one 8 (.done)))) 7 (.one 5 (.one 6 (.one 8 (.done))))) 7 (.one 4 (.one 5 (.one 6 (.one 8 (.done)))))) (.alt 4 (.alt 2 (.two 5 (.one 6 (.one 7 (.one 8 (.done)))) 7 (.one 5 (.one 6 (.one 8 (.done))))) (.alt 5 (.two 2 (.one 6 (.one 7 (.one 8 (.done)))) 7 (.one 2 (.one 6 (.one 8 (.done))))) (.one 7 (.two 2 (.one 5 (.one 6 (.one 8 (.done)))) 5 (.one 2 (.one 6 (.one 8 (.done)))))))) (.one 7 (.two 2 (.one 4 (.one 5 (.one 6 (.one 8 (.done))))) 4 (.two 2 (.one 5 (.one 6 (.one 8 (.done)))) 5 (.one 2 (.one 6 (.one 8 (.done))))))))) 7 (.one 1 (.two 2 (.one 4 (.one 5 (.one 6 (.one 8 (.done))))) 4 (.two 2 (.one 5 (.one 6 (.one 8 (.done)))) 5 (.one 2 (.one 6 (.one 8 (.done)))))))))), (10, .one 0 (.one 2 (.one 3 (.one 5 (.one 9 (.one 10 (.one 11 (.one 12 (.one 13 (.one 14 (.one 1 (.one 4 (.one 6 (.one 7 (.one 8 (.one 15 (.one 16 (.one 17 (.one 18 (.one 19 (.done)))))))))))))))))))))], [], false⟩
/-- joust/arena.Inbox -/
noncomputable def fi38 : FI := ⟨codeOf Tryz.f38, [.tmp 6], .pure, [([0, 1, 0, 1, 1], [1, 2, 7, 12, 13, 14])], [], [([0, 1, 0, 1, 1], [7])], false⟩
/-- joust/jousthelp.Same[joust/api.Region] -/
noncomputable def fi39 : FI := ⟨codeOf Tryz.f39, [.tmp 6], .pure, [([0, 1, 0, 1, 1], [0, 1, 2, 6, 7])], [(6, .one 0 (.one 1 (.one 2 (.one 3 (.one 5 (.one 6 (.one 7 (.one 4 (.one 8 (.one 9 (.one 10 (.done))))))))))))], [], false⟩
/-- joust/jousthelp.Same[[]joust/api.Cross] -/
noncomputable def fi40 : FI := ⟨codeOf Tryz.f40, [.tmp 6], .pure, [([0, 1, 0, 1, 1], [0, 1, 2, 6, 7])], [(6, .one 0 (.one 1 (.one 2 (.one 3 (.one 5 (.one 6 (.one 7 (.one 4 (.one 8 (.one 9 (.one 10 (.done))))))))))))], [], false⟩
/-- joust/jousthelp.Crosses -/
noncomputable def fi41 : FI := ⟨codeOf Tryz.f41, [.tmp 4], .pure, [], [], [], false⟩
/-- joust/joustref09.Begin -/
noncomputable def fi42 : FI := ⟨codeOf Tryz.f42, [.cell 2 66, .tmp 3], .pure, [([0, 1, 0, 1, 1, 1, 1], [1, 2, 4, 5, 6])], [(4, .one 0 (.one 2 (.alt 1 (.two 3 (.one 4 (.one 5 (.one 6 (.done)))) 5 (.one 3 (.one 4 (.one 6 (.done))))) (.alt 3 (.two 1 (.one 4 (.one 5 (.one 6 (.done)))) 5 (.one 1 (.one 4 (.one 6 (.done))))) (.one 5 (.two 1 (.one 3 (.one 4 (.one 6 (.done)))) 3 (.one 1 (.one 4 (.one 6 (.done)))))))))), (10, .one 0 (.one 2 (.one 3 (.one 5 (.one 9 (.one 10 (.one 11 (.one 12 (.one 13 (.one 14 (.one 4 (.one 6 (.one 7 (.one 8 (.two 1 (.one 15 (.one 16 (.one 17 (.one 18 (.one 19 (.done)))))) 15 (.two 1 (.one 16 (.one 17 (.one 18 (.one 19 (.done))))) 16 (.one 1 (.one 17 (.one 18 (.one 19 (.done)))))))))))))))))))))], [], false⟩
/-- joust/arena.Run -/
noncomputable def fi43 : FI := ⟨codeOf Tryz.f43, [.cell 4 66, .tmp 5], .pure, [([0, 1, 0, 1, 1], [2, 4, 5, 6, 7, 15, 16, 17])], [], [], false⟩
/-- joust/joustref09.Run -/
noncomputable def fi44 : FI := ⟨codeOf Tryz.f44, [.cell 4 66, .tmp 5], .pure, [([0, 1, 0, 1, 1], [1, 2, 4, 6, 7, 8])], [(5, .one 2 (.one 3 (.one 4 (.one 0 (.one 1 (.one 5 (.one 6 (.one 7 (.one 8 (.one 9 (.one 10 (.one 11 (.done)))))))))))))], [], false⟩
/-- joust/jousthelp.Plain[joust/api.Entity] -/
noncomputable def fi45 : FI := ⟨codeOf Tryz.f45, [.tmp 4], .pure, [], [], [], false⟩
/-- joust/arena.All -/
noncomputable def fi46 : FI := ⟨codeOf Tryz.f46, [.tmp 2], .pure, [([0, 1, 0, 1, 1], [1, 3, 11, 12, 13]), ([0, 1, 0, 1, 1, 1], [3, 23, 24, 25]), ([0, 1, 1, 0, 0, 1, 1, 0, 0, 1, 0, 1, 1, 1], [3, 23, 24, 25, 29, 30, 31])], [], [([0, 1, 0, 1, 1], [3]), ([0, 1, 0, 1, 1, 1], [3]), ([0, 1, 1, 0, 0, 1, 1, 0, 0, 1, 0, 1, 1, 1], [3])], false⟩
/-- joust/joustref09.All -/
noncomputable def fi47 : FI := ⟨codeOf Tryz.f47, [.tmp 2], .pure, [([0, 0, 1, 0, 0, 1, 0, 0, 1, 0, 1, 1, 1, 1, 1], [3, 7, 8, 9]), ([0, 1, 0, 0, 1, 0, 0, 1, 0, 1, 1, 1], [1, 3, 5, 6]), ([0, 1, 0, 1, 1], [1, 3, 4]), ([0, 1, 0, 1, 1, 1], [1, 3, 5]), ([0, 1, 0, 1, 1, 1, 1, 1], [3, 7, 8])], [(19, .one 0 (.one 1 (.one 2 (.one 3 (.one 4 (.one 5 (.one 6 (.one 7 (.one 9 (.one 10 (.one 11 (.one 12 (.one 8 (.one 13 (.one 14 (.one 15 (.done))))))))))))))))), (21, .one 0 (.one 1 (.one 2 (.one 4 (.one 5 (.one 6 (.one 10 (.one 11 (.one 12 (.one 7 (.two 3 (.one 8 (.one 9 (.one 13 (.one 14 (.done))))) 8 (.one 3 (.one 9 (.one 13 (.one 14 (.done))))))))))))))))], [([0, 1, 0, 0, 1, 0, 0, 1, 0, 1, 1, 1], [3]), ([0, 1, 0, 1, 1], [3]), ([0, 1, 0, 1, 1, 1], [3]), ([0, 1, 0, 1, 1, 1, 1, 1], [7])], false⟩
/-- joust/joustref09.Inbox -/
noncomputable def fi48 : FI := ⟨codeOf Tryz.f48, [.tmp 6], .pure, [([0, 1, 0, 1, 1, 1], [1, 2, 7, 8, 9])], [], [([0, 1, 0, 1, 1, 1], [7])], false⟩
/-- joust/ghost.World -/
noncomputable def fi49 : FI := ⟨codeOf Tryz.f49, [.cell 10 66, .tmp 11], .pure, [([0, 1, 0, 1, 1, 0, 0, 1, 1, 0, 0, 1, 0, 1, 1, 1, 1], [1, 2, 3, 5, 10, 12, 14, 15, 16, 44, 45, 53, 54]), ([0, 1, 0, 1, 1, 1, 1], [1, 2, 3, 5, 10, 12, 14, 44, 45])], [], [([0, 1, 0, 1, 1, 1, 1], [14])], false⟩
/-- joust/joustref25.World -/
noncomputable def fi50 : FI := ⟨codeOf Tryz.f50, [.cell 10 66, .tmp 11], .pure, [([0, 1, 0, 1, 0, 0, 1, 0, 0, 1, 0, 1, 1, 1, 1], [1, 2, 3, 4, 5, 10, 12, 14, 15, 16]), ([0, 1, 0, 1, 1, 1, 1], [1, 2, 3, 4, 5, 10, 12, 13, 14])], [], [], false⟩
/-- joust/joustlaw26.awake -/
noncomputable def fi51 : FI := ⟨codeOf Tryz.f51, [.tmp 0], .pure, [], [], [], false⟩
/-- joust/joustref03.Right -/
noncomputable def fi52 : FI := ⟨codeOf Tryz.f52, [.tmp 2], .pure, [], [], [], false⟩
/-- joust/grid.right -/
noncomputable def fi53 : FI := ⟨codeOf Tryz.f53, [.tmp 2], .pure, [], [], [], false⟩
/-- joust/region.Right -/
noncomputable def fi54 : FI := ⟨codeOf Tryz.f54, [.tmp 6], .pure, [], [], [], false⟩
/-- (joust/grid.Grid).size -/
noncomputable def fi55 : FI := ⟨codeOf Tryz.f55, [.tmp 2, .tmp 3], .pure, [], [(3, .one 0 (.one 1 (.one 3 (.one 4 (.one 2 (.one 6 (.one 5 (.one 7 (.done)))))))))], [], false⟩
/-- joust/joustref03.Corner -/
noncomputable def fi56 : FI := ⟨codeOf Tryz.f56, [.tmp 4, .tmp 5], .pure, [], [(3, .one 0 (.one 1 (.one 5 (.one 6 (.one 2 (.one 3 (.one 4 (.one 10 (.one 7 (.one 8 (.one 9 (.one 11 (.done)))))))))))))], [], false⟩
/-- joust/joustref05.Right -/
noncomputable def fi57 : FI := ⟨codeOf Tryz.f57, [.tmp 4], .pure, [], [], [], false⟩
/-- joust/joustref05.Put -/
noncomputable def fi58 : FI := ⟨codeOf Tryz.f58, [.tmp 4], .pure, [([0, 0, 1, 1, 1], [0, 3, 5])], [(4, .one 0 (.one 1 (.one 2 (.one 3 (.one 4 (.one 5 (.one 6 (.one 7 (.one 8 (.one 10 (.one 9 (.one 11 (.one 12 (.one 13 (.done))))))))))))))), (6, .one 0 (.one 1 (.one 2 (.one 7 (.one 8 (.one 9 (.one 4 (.two 3 (.one 5 (.one 6 (.one 10 (.one 11 (.done))))) 5 (.one 3 (.one 6 (.one 10 (.one 11 (.done)))))))))))))], [], false⟩
/-- joust/joustplay.Input -/
noncomputable def fi59 : FI := ⟨codeOf Tryz.f59, [.cell 2 61], .pure, [], [], [], false⟩
/-- joust/region.asked -/
noncomputable def fi60 : FI := ⟨codeOf Tryz.f60, [.tmp 10], .pure, [], [], [], false⟩
/-- joust/region.Arrive -/
noncomputable def fi61 : FI := ⟨codeOf Tryz.f61, [.tmp 8], .fresh, [([0, 1, 0, 1, 1], [9, 15, 16, 17])], [], [([0, 1, 0, 1, 1], [9])], true⟩
/-- (*joust/region.step).steer -/
noncomputable def fi62 : FI := ⟨codeOf Tryz.f62, [], .inout, [([0, 1], [0, 1, 12, 13, 14])], [(7, .one 0 (.one 1 (.one 2 (.one 3 (.one 7 (.alt 4 (.alt 5 (.two 6 (.one 8 (.one 9 (.one 10 (.one 11 (.one 12 (.one 13 (.one 14 (.done)))))))) 8 (.one 6 (.one 9 (.one 10 (.one 11 (.one 12 (.one 13 (.one 14 (.done))))))))) (.alt 6 (.two 5 (.one 8 (.one 9 (.one 10 (.one 11 (.one 12 (.one 13 (.one 14 (.done)))))))) 8 (.one 5 (.one 9 (.one 10 (.one 11 (.one 12 (.one 13 (.one 14 (.done))))))))) (.one 8 (.one 5 (.one 6 (.one 9 (.one 10 (.one 11 (.one 12 (.one 13 (.one 14 (.done)))))))))))) (.alt 5 (.alt 4 (.two 6 (.one 8 (.one 9 (.one 10 (.one 11 (.one 12 (.one 13 (.one 14 (.done)))))))) 8 (.one 6 (.one 9 (.one 10 (.one 11 (.one 12 (.one 13 (.one 14 (.done))))))))) (.alt 6 (.two 4 (.one 8 (.one 9 (.one 10 (.one 11 (.one 12 (.one 13 (.one 14 (.done)))))))) 8 (.one 4 (.one 9 (.one 10 (.one 11 (.one 12 (.one 13 (.one 14 (.done))))))))) (.one 8 (.one 4 (.one 6 (.one 9 (.one 10 (.one 11 (.one 12 (.one 13 (.one 14 (.done)))))))))))) (.alt 6 (.alt 4 (.two 5 (.one 8 (.one 9 (.one 10 (.one 11 (.one 12 (.one 13 (.one 14 (.done)))))))) 8 (.one 5 (.one 9 (.one 10 (.one 11 (.one 12 (.one 13 (.one 14 (.done))))))))) (.alt 5 (.two 4 (.one 8 (.one 9 (.one 10 (.one 11 (.one 12 (.one 13 (.one 14 (.done)))))))) 8 (.one 4 (.one 9 (.one 10 (.one 11 (.one 12 (.one 13 (.one 14 (.done))))))))) (.one 8 (.one 4 (.one 5 (.one 9 (.one 10 (.one 11 (.one 12 (.one 13 (.one 14 (.done)))))))))))) (.one 8 (.one 4 (.one 5 (.one 6 (.one 9 (.one 10 (.one 11 (.one 12 (.one 13 (.one 14 (.done))))))))))))))))))), (10, .one 0 (.one 1 (.one 2 (.one 4 (.one 5 (.one 6 (.one 8 (.one 3 (.one 7 (.one 9 (.one 11 (.one 10 (.one 12 (.one 13 (.done)))))))))))))))], [], false⟩
/-- (*joust/region.step).move -/
noncomputable def fi63 : FI := ⟨codeOf Tryz.f63, [], .inout, [([0, 1, 0, 1], [0, 2, 10, 11, 12])], [(4, .one 0 (.one 1 (.one 2 (.one 3 (.one 4 (.two 5 (.one 6 (.one 7 (.one 8 (.one 9 (.one 10 (.one 11 (.done))))))) 9 (.one 5 (.one 6 (.one 7 (.one 8 (.one 10 (.one 11 (.done)))))))))))))], [([0, 1, 0, 1], [2])], false⟩
/-- joust/hitting.Blasts -/
noncomputable def fi64 : FI := ⟨codeOf Tryz.f64, [.tmp 4], .fresh, [([0, 1, 0, 1, 1], [5, 12, 13, 14]), ([0, 1, 1, 0, 0, 1, 1, 0, 0, 1, 0, 1, 1], [5, 7, 12, 13, 14, 19, 20])], [(9, .one 0 (.one 1 (.one 2 (.one 3 (.one 4 (.one 5 (.one 6 (.one 7 (.one 8 (.one 9 (.one 10 (.one 11 (.one 12 (.one 14 (.one 16 (.one 13 (.one 15 (.one 17 (.one 18 (.one 19 (.done)))))))))))))))))))))], [], true⟩
/-- joust/hitting.Gems -/
noncomputable def fi65 : FI := ⟨codeOf Tryz.f65, [.tmp 2], .fresh, [], [], [], true⟩
/-- joust/hitting.Shots -/
noncomputable def fi66 : FI := ⟨codeOf Tryz.f66, [.tmp 2], .fresh, [], [], [], true⟩
/-- (*joust/region.step).fall -/
noncomputable def fi67 : FI := ⟨codeOf Tryz.f67, [], .inout, [([0, 1], [0, 11, 12, 13]), ([0, 1, 0, 1, 1, 0, 0, 1, 1, 0, 0, 1], [0, 3, 4, 11, 12, 13, 36, 37, 38])], [(3, .one 0 (.one 1 (.one 2 (.one 4 (.one 5 (.one 6 (.one 8 (.one 3 (.one 7 (.one 9 (.one 10 (.one 11 (.done))))))))))))), (4, .one 0 (.one 1 (.one 2 (.one 4 (.one 5 (.one 6 (.one 10 (.one 3 (.one 7 (.one 8 (.one 9 (.done)))))))))))), (7, .one 0 (.one 1 (.one 2 (.one 3 (.one 4 (.one 6 (.one 7 (.one 8 (.one 5 (.one 9 (.one 10 (.one 11 (.done)))))))))))))], [], false⟩
/-- (*joust/region.step).grow -/
noncomputable def fi68 : FI := ⟨codeOf Tryz.f68, [], .inout, [([0, 1, 0, 1], [0, 2, 10, 11, 12])], [(7, .one 0 (.one 1 (.one 2 (.one 3 (.one 4 (.one 6 (.one 7 (.one 8 (.one 10 (.one 11 (.one 12 (.one 5 (.one 9 (.one 13 (.one 14 (.one 15 (.one 16 (.one 17 (.one 18 (.one 19 (.one 20 (.one 21 (.one 22 (.one 23 (.one 24 (.one 25 (.done))))))))))))))))))))))))))), (9, .one 0 (.one 1 (.one 2 (.one 3 (.one 5 (.one 7 (.one 8 (.two 4 (.one 6 (.one 9 (.one 10 (.one 11 (.one 12 (.one 13 (.one 14 (.done)))))))) 6 (.one 9 (.one 4 (.one 10 (.one 11 (.one 12 (.one 13 (.one 14 (.done))))))))))))))))], [], false⟩
/-- (*joust/region.step).leave -/
noncomputable def fi69 : FI := ⟨codeOf Tryz.f69, [], .inout, [([0, 1, 0, 1], [0, 2, 9, 10, 11])], [(4, .one 0 (.one 1 (.one 2 (.one 4 (.one 6 (.one 3 (.one 5 (.one 7 (.one 8 (.one 9 (.done)))))))))))], [([0, 1, 0, 1], [2])], false⟩
/-- joust/cross.Sort -/
noncomputable def fi70 : FI := ⟨codeOf Tryz.f70, [.tmp 2], .fresh, [], [], [], true⟩
/-- joust/joustref03.Is -/
noncomputable def fi71 : FI := ⟨codeOf Tryz.f71, [.tmp 4], .pure, [], [], [], false⟩
/-- joust/joustref05.Sorted -/
noncomputable def fi72 : FI := ⟨codeOf Tryz.f72, [.tmp 2], .pure, [([0, 1, 0, 1], [0, 2, 3])], [(4, .one 0 (.one 1 (.one 2 (.one 3 (.one 5 (.one 6 (.one 7 (.one 8 (.one 9 (.one 4 (.one 10 (.one 11 (.done)))))))))))))], [], false⟩
/-- joust/joustref05.Things -/
noncomputable def fi73 : FI := ⟨codeOf Tryz.f73, [.tmp 2], .pure, [([0, 1, 0, 1, 1], [0, 3, 4])], [], [], false⟩
/-- joust/joustref03.Of -/
noncomputable def fi74 : FI := ⟨codeOf Tryz.f74, [.tmp 6], .pure, [], [(3, .one 0 (.one 1 (.one 6 (.one 7 (.one 2 (.one 3 (.one 4 (.one 8 (.one 9 (.one 10 (.one 5 (.one 11 (.one 12 (.one 13 (.done)))))))))))))))], [], false⟩
/-- joust/joustref05.within -/
noncomputable def fi75 : FI := ⟨codeOf Tryz.f75, [.tmp 6], .pure, [], [], [], false⟩
/-- joust/joustref03.Inside -/
noncomputable def fi76 : FI := ⟨codeOf Tryz.f76, [.tmp 6], .pure, [], [], [], false⟩
/-- joust/joustref03.Regions -/
noncomputable def fi77 : FI := ⟨codeOf Tryz.f77, [.tmp 2], .pure, [], [], [], false⟩
/-- joust/jousthelp.Same[joust/api.Cross] -/
noncomputable def fi78 : FI := ⟨codeOf Tryz.f78, [.tmp 6], .pure, [([0, 1, 0, 1, 1], [0, 1, 2, 6, 7])], [(6, .one 0 (.one 1 (.one 2 (.one 3 (.one 5 (.one 6 (.one 7 (.one 4 (.one 8 (.one 9 (.one 10 (.done))))))))))))], [], false⟩
/-- joust/jousthelp.Plain[joust/api.Cross]$1 -/
noncomputable def fi79 : FI := ⟨codeOf Tryz.f79, [.tmp 4], .pure, [], [], [], false⟩
/-- joust/joustref09.Step -/
noncomputable def fi80 : FI := ⟨codeOf Tryz.f80, [.cell 10 38, .tmp 11, .tmp 12], .pure, [([0, 1, 0, 1, 0, 0, 1, 0, 0, 1, 0, 1, 1, 1, 1, 1, 1, 1, 1, 1, 1, 1, 1], [1, 5, 10, 14, 25, 26, 27, 28, 29, 30]), ([0, 1, 0, 1, 1, 1, 1, 1], [1, 3, 4, 5, 10, 14, 15, 16]), ([0, 1, 0, 1, 1, 1, 1, 1, 1, 1], [1, 4, 5, 10, 14, 21, 22]), ([0, 1, 0, 1, 1, 1, 1, 1, 1, 1, 1, 1, 1, 1, 1], [1, 5, 10, 14, 25, 26, 27, 28]), ([0, 1, 0, 1, 1, 1, 1, 1, 1, 1, 1, 1, 1, 1, 1, 1, 1], [1, 5, 10, 14, 25, 31, 32]), ([0, 1, 0, 1, 1, 1, 1, 1, 1, 1, 1, 1, 1, 1, 1, 1, 1, 1, 1, 1], [1, 5, 10, 14, 25, 34, 35])], [(4, .one 1 (.one 2 (.one 5 (.one 0 (.one 3 (.one 4 (.one 6 (.one 7 (.one 8 (.one 9 (.done))))))))))), (9, .one 0 (.one 1 (.one 2 (.one 4 (.one 5 (.one 6 (.one 3 (.one 7 (.one 8 (.one 9 (.done))))))))))), (10, .one 0 (.one 1 (.one 2 (.one 4 (.one 7 (.one 8 (.one 9 (.one 10 (.one 3 (.one 5 (.one 6 (.one 11 (.one 12 (.one 13 (.one 14 (.two 15 (.one 16 (.one 17 (.one 18 (.one 19 (.one 20 (.one 21 (.done))))))) 19 (.one 15 (.one 16 (.one 17 (.one 18 (.one 20 (.one 21 (.done))))))))))))))))))))))), (14, .one 0 (.one 1 (.one 2 (.one 4 (.one 3 (.one 5 (.one 6 (.one 7 (.done))))))))), (16, .one 0 (.one 1 (.one 2 (.one 3 (.one 6 (.one 7 (.one 8 (.one 9 (.one 14 (.one 4 (.one 5 (.one 10 (.one 11 (.one 12 (.one 13 (.one 15 (.one 16 (.one 17 (.one 18 (.one 19 (.one 20 (.done)))))))))))))))))))))), (21, .one 1 (.one 2 (.one 3 (.one 5 (.one 0 (.one 4 (.one 6 (.one 7 (.two 8 (.one 9 (.one 10 (.one 11 (.one 12 (.one 13 (.one 14 (.done))))))) 12 (.one 8 (.one 9 (.one 10 (.one 11 (.one 13 (.one 14 (.done)))))))))))))))), (31, .one 0 (.one 1 (.one 2 (.one 4 (.one 5 (.one 6 (.one 3 (.one 7 (.one 8 (.one 9 (.done))))))))))), (35, .one 0 (.one 1 (.one 2 (.one 3 (.one 4 (.one 6 (.one 7 (.one 8 (.one 10 (.one 11 (.one 12 (.one 14 (.one 18 (.one 19 (.one 20 (.one 22 (.one 5 (.one 9 (.one 13 (.one 15 (.one 16 (.one 17 (.one 21 (.one 23 (.one 24 (.one 25 (.one 26 (.one 27 (.one 28 (.one 29 (.done))))))))))))))))))))))))))))))), (36, .one 0 (.one 1 (.one 2 (.one 4 (.one 5 (.one 6 (.one 7 (.one 9 (.one 10 (.one 11 (.one 12 (.one 14 (.one 15 (.one 16 (.one 17 (.one 19 (.one 3 (.one 8 (.one 13 (.one 18 (.one 20 (.one 21 (.one 22 (.one 23 (.one 24 (.one 25 (.one 26 (.one 27 (.one 28 (.one 29 (.one 30 (.one 31 (.done))))))))))))))))))))))))))))))))), (37, .one 0 (.one 1 (.one 2 (.one 4 (.one 5 (.one 6 (.one 7 (.one 9 (.one 10 (.one 11 (.one 12 (.one 13 (.one 3 (.one 8 (.one 14 (.one 15 (.one 16 (.one 17 (.one 18 (.one 19 (.one 20 (.one 21 (.one 22 (.one 23 (.one 24 (.done)))))))))))))))))))))))))), (44, .one 0 (.one 2 (.one 3 (.one 4 (.one 6 (.one 1 (.one 5 (.one 7 (.one 8 (.one 9 (.one 10 (.one 11 (.one 12 (.one 13 (.one 14 (.one 15 (.one 16 (.one 17 (.done))))))))))))))))))), (48, .one 0 (.one 1 (.one 2 (.one 3 (.one 4 (.one 5 (.one 6 (.one 7 (.one 8 (.one 9 (.done))))))))))), (53, .one 1 (.one 2 (.one 3 (.one 5 (.one 9 (.one 10 (.one 11 (.one 13 (.one 0 (.one 4 (.one 6 (.one 7 (.one 8 (.one 12 (.one 14 (.one 15 (.one 16 (.one 17 (.one 18 (.done)))))))))))))))))))), (56, .one 0 (.one 1 (.one 2 (.one 3 (.one 4 (.one 5 (.one 7 (.one 8 (.one 9 (.one 11 (.one 6 (.one 10 (.one 12 (.one 13 (.one 14 (.one 15 (.one 16 (.one 17 (.done))))))))))))))))))), (57, .one 0 (.one 1 (.one 2 (.one 5 (.one 7 (.one 3 (.one 4 (.one 6 (.one 8 (.one 9 (.one 10 (.one 11 (.done)))))))))))))], [([0, 1, 0, 1, 0, 0, 1, 0, 0, 1, 0, 1, 1, 1, 1, 1, 1, 1, 1, 1, 1, 1, 1], [25]), ([0, 1, 0, 1, 1, 1, 1, 1, 1, 1], [21]), ([0, 1, 0, 1, 1, 1, 1, 1, 1, 1, 1, 1, 1, 1, 1], [25]), ([0, 1, 0, 1, 1, 1, 1, 1, 1, 1, 1, 1, 1, 1, 1, 1, 1, 1, 1, 1], [25, 34])], false⟩
/-- (joust/grid.Grid).Corner -/
noncomputable def fi81 : FI := ⟨codeOf Tryz.f81, [.tmp 4, .tmp 5], .pure, [], [(3, .one 0 (.one 1 (.one 2 (.one 6 (.one 7 (.one 8 (.one 3 (.one 4 (.one 5 (.one 12 (.one 9 (.one 10 (.one 11 (.one 13 (.done)))))))))))))))], [], false⟩
/-- joust/entity.Put -/
noncomputable def fi82 : FI := ⟨codeOf Tryz.f82, [.tmp 4], .fresh, [([0, 1, 0, 1, 1], [5, 11, 12, 13])], [], [([0, 1, 0, 1, 1], [5])], true⟩
/-- (joust/grid.Grid).Near -/
noncomputable def fi83 : FI := ⟨codeOf Tryz.f83, [.tmp 4], .pure, [([0, 1, 0, 0, 1, 0, 0, 1, 0, 1, 1, 1], [1, 2, 5, 6, 7]), ([0, 1, 0, 1, 1, 1], [1, 2, 5, 6])], [(5, .one 0 (.one 1 (.one 2 (.one 3 (.one 7 (.one 8 (.one 4 (.one 5 (.one 6 (.one 9 (.one 10 (.one 11 (.one 12 (.done)))))))))))))), (8, .one 0 (.one 1 (.one 2 (.one 3 (.one 7 (.one 8 (.one 4 (.one 5 (.one 6 (.one 9 (.one 10 (.one 11 (.one 12 (.done))))))))))))))], [([0, 1, 0, 0, 1, 0, 0, 1, 0, 1, 1, 1], [5]), ([0, 1, 0, 1, 1, 1], [5])], false⟩
/-- joust/cross.To -/
noncomputable def fi84 : FI := ⟨codeOf Tryz.f84, [.tmp 4], .fresh, [], [], [], true⟩
/-- joust/jousthelp.Same[joust/api.Entity] -/
noncomputable def fi85 : FI := ⟨codeOf Tryz.f85, [.tmp 6], .pure, [([0, 1, 0, 1, 1], [0, 1, 2, 6, 7])], [(6, .one 0 (.one 1 (.one 2 (.one 3 (.one 5 (.one 6 (.one 7 (.one 4 (.one 8 (.one 9 (.one 10 (.done))))))))))))], [], false⟩
/-- joust/jousthelp.Plain[joust/api.Entity]$1 -/
noncomputable def fi86 : FI := ⟨codeOf Tryz.f86, [.tmp 4], .pure, [], [], [], false⟩
/-- slices.SortStableFunc[[]joust/api.Entity,joust/api.Entity] -/
noncomputable def fi87 : FI := ⟨codeOf Tryz.f87, [], .inout, [], [], [], false⟩
/-- joust/arena.All$1 -/
noncomputable def fi88 : FI := ⟨codeOf Tryz.f88, [.tmp 4], .pure, [], [], [], false⟩
/-- cmp.Compare[int] -/
noncomputable def fi89 : FI := ⟨codeOf Tryz.f89, [.tmp 4], .pure, [], [], [], false⟩
/-- joust/joustref05.To -/
noncomputable def fi90 : FI := ⟨codeOf Tryz.f90, [.tmp 4], .pure, [([0, 1, 0, 1, 1], [0, 1, 5, 6])], [], [([0, 1, 0, 1, 1], [5])], false⟩
/-- joust/grid.within -/
noncomputable def fi91 : FI := ⟨codeOf Tryz.f91, [.tmp 6], .pure, [], [], [], false⟩
/-- joust/region.is -/
noncomputable def fi92 : FI := ⟨codeOf Tryz.f92, [.tmp 4], .pure, [], [], [], false⟩
/-- joust/entity.Sorted -/
noncomputable def fi93 : FI := ⟨codeOf Tryz.f93, [.tmp 2], .pure, [([0, 1, 0, 1], [0, 2, 5, 6])], [(4, .one 0 (.one 1 (.one 2 (.one 3 (.one 4 (.one 5 (.one 6 (.one 8 (.one 9 (.one 10 (.one 11 (.one 12 (.one 7 (.one 13 (.one 14 (.one 15 (.done)))))))))))))))))], [], false⟩
/-- joust/entity.Things -/
noncomputable def fi94 : FI := ⟨codeOf Tryz.f94, [.tmp 2], .pure, [([0, 1, 0, 1, 1], [3, 6, 7, 8])], [], [], false⟩
/-- slices.ContainsFunc[[]joust/api.Entity,joust/api.Entity] -/
noncomputable def fi95 : FI := ⟨codeOf Tryz.f95, [.tmp 4], .pure, [], [], [], false⟩
/-- joust/region.Right$1 -/
noncomputable def fi96 : FI := ⟨codeOf Tryz.f96, [.tmp 4], .pure, [], [(1, .one 0 (.one 1 (.one 2 (.one 3 (.one 4 (.one 6 (.one 8 (.one 5 (.one 7 (.one 9 (.one 11 (.one 10 (.one 12 (.one 13 (.one 14 (.done))))))))))))))))], [], false⟩
/-- joust/entity.Right -/
noncomputable def fi97 : FI := ⟨codeOf Tryz.f97, [.tmp 4], .pure, [], [], [], false⟩
/-- (joust/grid.Grid).Of -/
noncomputable def fi98 : FI := ⟨codeOf Tryz.f98, [.tmp 6], .pure, [], [(4, .one 0 (.one 5 (.one 1 (.one 6 (.one 2 (.one 3 (.one 4 (.one 7 (.one 8 (.one 9 (.one 10 (.one 11 (.done)))))))))))))], [], false⟩
/-- joust/joustref05.step -/
noncomputable def fi99 : FI := ⟨codeOf Tryz.f99, [.tmp 2], .pure, [], [], [], false⟩
/-- joust/joustref05.Find -/
noncomputable def fi100 : FI := ⟨codeOf Tryz.f100, [.tmp 4], .pure, [([0, 1, 0, 1], [0, 1, 4, 5])], [], [], false⟩
/-- joust/joustref05.Input -/
noncomputable def fi101 : FI := ⟨codeOf Tryz.f101, [.tmp 2], .pure, [], [], [], false⟩
/-- slices.ContainsFunc[[]joust/api.Input,joust/api.Input] -/
noncomputable def fi102 : FI := ⟨codeOf Tryz.f102, [.tmp 4], .pure, [], [], [], false⟩
/-- joust/region.asked$1 -/
noncomputable def fi103 : FI := ⟨codeOf Tryz.f103, [.tmp 2], .pure, [], [], [], false⟩
/-- joust/input.Right -/
noncomputable def fi104 : FI := ⟨codeOf Tryz.f104, [.tmp 2], .pure, [], [], [], false⟩
/-- slices.ContainsFunc[[]joust/api.Cross,joust/api.Cross] -/
noncomputable def fi105 : FI := ⟨codeOf Tryz.f105, [.tmp 4], .pure, [], [], [], false⟩
/-- joust/region.asked$2 -/
noncomputable def fi106 : FI := ⟨codeOf Tryz.f106, [.tmp 5], .pure, [], [], [], false⟩
/-- joust/cross.Right -/
noncomputable def fi107 : FI := ⟨codeOf Tryz.f107, [.tmp 4], .pure, [], [(1, .one 1 (.one 4 (.one 0 (.one 2 (.one 5 (.one 3 (.one 6 (.one 7 (.one 8 (.one 9 (.one 10 (.one 11 (.one 12 (.one 13 (.one 14 (.one 15 (.one 16 (.one 17 (.done))))))))))))))))))), (5, .one 1 (.one 0 (.one 2 (.one 3 (.one 4 (.one 6 (.one 7 (.one 9 (.one 10 (.one 13 (.one 5 (.one 8 (.one 11 (.one 14 (.one 12 (.one 15 (.one 16 (.one 17 (.one 18 (.one 19 (.one 20 (.one 21 (.one 22 (.one 23 (.one 24 (.one 25 (.one 26 (.one 27 (.one 28 (.one 30 (.one 29 (.one 31 (.one 32 (.one 33 (.one 34 (.done))))))))))))))))))))))))))))))))))))], [], false⟩
/-- slices.Clone[[]joust/api.Entity,joust/api.Entity] -/
noncomputable def fi108 : FI := ⟨codeOf Tryz.f108, [.tmp 2], .fresh, [], [], [], true⟩
/-- joust/moving.Steer -/
noncomputable def fi109 : FI := ⟨codeOf Tryz.f109, [.cell 4 48, .tmp 5], .pure, [], [(3, .one 0 (.one 3 (.one 1 (.one 2 (.one 6 (.two 4 (.one 5 (.one 7 (.one 8 (.one 9 (.done))))) 7 (.one 4 (.one 5 (.one 8 (.one 9 (.done)))))))))))], [], false⟩
/-- (*joust/region.step).room -/
noncomputable def fi110 : FI := ⟨codeOf Tryz.f110, [.tmp 2], .pure, [], [], [], false⟩
/-- joust/moving.Shoot -/
noncomputable def fi111 : FI := ⟨codeOf Tryz.f111, [.cell 6 48], .pure, [], [(1, .one 0 (.one 1 (.one 3 (.one 5 (.one 8 (.one 11 (.one 2 (.one 4 (.one 6 (.one 9 (.one 12 (.two 7 (.two 10 (.one 13 (.one 14 (.one 15 (.done)))) 14 (.one 10 (.one 13 (.one 15 (.done))))) 14 (.one 7 (.one 10 (.one 13 (.one 15 (.done)))))))))))))))))], [], false⟩
/-- (*joust/region.step).number -/
noncomputable def fi112 : FI := ⟨codeOf Tryz.f112, [.tmp 2], .inout, [], [(2, .one 0 (.one 1 (.one 2 (.one 4 (.one 5 (.one 6 (.one 10 (.one 11 (.one 12 (.one 17 (.one 18 (.one 19 (.one 3 (.one 7 (.one 13 (.one 20 (.one 8 (.one 9 (.one 14 (.one 15 (.one 16 (.one 21 (.one 22 (.one 23 (.done)))))))))))))))))))))))))], [], false⟩
/-- joust/entity.Find -/
noncomputable def fi113 : FI := ⟨codeOf Tryz.f113, [.tmp 4], .pure, [], [], [], false⟩
/-- joust/moving.Go -/
noncomputable def fi114 : FI := ⟨codeOf Tryz.f114, [.cell 4 48, .tmp 5], .pure, [], [(3, .one 0 (.one 2 (.one 6 (.one 8 (.one 1 (.one 3 (.one 7 (.one 9 (.two 4 (.two 5 (.one 10 (.one 11 (.one 12 (.one 13 (.done))))) 10 (.one 5 (.one 11 (.one 12 (.one 13 (.done)))))) 10 (.one 4 (.one 5 (.one 11 (.one 12 (.one 13 (.done))))))))))))))), (8, .one 0 (.one 5 (.one 1 (.one 6 (.one 2 (.one 3 (.one 4 (.one 10 (.one 7 (.one 8 (.one 9 (.one 11 (.one 12 (.one 13 (.done)))))))))))))))], [], false⟩
/-- joust/hitting.near -/
noncomputable def fi115 : FI := ⟨codeOf Tryz.f115, [.tmp 8], .pure, [], [], [], false⟩
/-- joust/fixed.Sub -/
noncomputable def fi116 : FI := ⟨codeOf Tryz.f116, [.tmp 4], .pure, [], [], [], false⟩
/-- joust/hitting.meet -/
noncomputable def fi117 : FI := ⟨codeOf Tryz.f117, [.tmp 10], .fresh, [([0, 1, 0, 1, 1, 1], [1, 4, 7, 8, 11, 12, 24, 25, 26]), ([0, 1, 0, 1, 1, 1, 1, 1], [12, 16, 55, 56, 57])], [], [([0, 1, 0, 1, 1, 1, 1, 1], [16])], true⟩
/-- joust/hitting.Gems$1 -/
noncomputable def fi118 : FI := ⟨codeOf Tryz.f118, [.tmp 4], .pure, [], [], [], false⟩
/-- joust/hitting.Gems$2 -/
noncomputable def fi119 : FI := ⟨codeOf Tryz.f119, [.tmp 2], .pure, [], [], [], false⟩
/-- joust/fixed.Add -/
noncomputable def fi120 : FI := ⟨codeOf Tryz.f120, [.tmp 2], .pure, [([0, 1, 0, 1, 1], [3, 6, 7, 8])], [], [], false⟩
/-- joust/hitting.Shots$1 -/
noncomputable def fi121 : FI := ⟨codeOf Tryz.f121, [.tmp 4], .pure, [], [], [], false⟩
/-- joust/hitting.Shots$2 -/
noncomputable def fi122 : FI := ⟨codeOf Tryz.f122, [.tmp 2], .pure, [], [], [], false⟩
/-- joust/hitting.Fallen -/
noncomputable def fi123 : FI := ⟨codeOf Tryz.f123, [.tmp 2], .inout, [([0, 1, 0, 1, 1], [3, 6, 7, 8])], [], [([0, 1, 0, 1, 1], [3])], false⟩
/-- (*joust/region.step).send -/
noncomputable def fi124 : FI := ⟨codeOf Tryz.f124, [], .inout, [], [(1, .one 0 (.one 1 (.one 2 (.one 4 (.one 5 (.one 6 (.one 3 (.one 8 (.two 7 (.one 9 (.one 10 (.one 11 (.done)))) 9 (.one 7 (.one 10 (.one 11 (.done))))))))))))), (2, .one 0 (.one 1 (.one 2 (.one 3 (.one 4 (.one 5 (.one 6 (.one 7 (.one 8 (.one 9 (.one 10 (.done))))))))))))], [], false⟩
/-- (*joust/region.step).place -/
noncomputable def fi125 : FI := ⟨codeOf Tryz.f125, [.tmp 8, .tmp 9], .pure, [], [(1, .one 0 (.one 1 (.one 2 (.one 4 (.one 5 (.one 6 (.one 3 (.one 7 (.one 8 (.one 9 (.one 10 (.one 11 (.one 12 (.one 13 (.done))))))))))))))), (2, .one 0 (.one 1 (.one 2 (.one 3 (.one 4 (.one 5 (.one 7 (.one 8 (.one 9 (.one 10 (.one 12 (.one 16 (.one 17 (.one 18 (.one 19 (.one 20 (.one 21 (.one 23 (.one 24 (.one 25 (.one 26 (.one 28 (.one 6 (.one 11 (.one 22 (.one 27 (.two 13 (.two 14 (.one 15 (.one 29 (.one 30 (.one 31 (.one 32 (.one 33 (.done))))))) 29 (.one 14 (.one 15 (.one 30 (.one 31 (.one 32 (.one 33 (.done)))))))) 29 (.one 13 (.one 14 (.one 15 (.one 30 (.one 31 (.one 32 (.one 33 (.done)))))))))))))))))))))))))))))))))))], [], false⟩
/-- joust/chance.Below -/
noncomputable def fi126 : FI := ⟨codeOf Tryz.f126, [.tmp 6], .pure, [], [], [], false⟩
/-- slices.Concat[[]joust/api.Cross,joust/api.Cross] -/
noncomputable def fi127 : FI := ⟨codeOf Tryz.f127, [.tmp 2], .fresh, [([0, 1, 0, 1, 1], [0, 3, 9, 10, 11]), ([0, 1, 0, 1, 1, 1, 1], [6, 25, 26, 27])], [], [([0, 1, 0, 1, 1, 1, 1], [6])], true⟩
/-- slices.SortStableFunc[[]joust/api.Cross,joust/api.Cross] -/
noncomputable def fi128 : FI := ⟨codeOf Tryz.f128, [], .inout, [], [], [], false⟩
/-- joust/cross.compare -/
noncomputable def fi129 : FI := ⟨codeOf Tryz.f129, [.tmp 4], .pure, [], [(1, .one 0 (.one 2 (.one 5 (.one 7 (.one 1 (.one 3 (.one 6 (.one 8 (.one 4 (.one 9 (.one 10 (.one 11 (.one 12 (.done)))))))))))))), (6, .one 0 (.one 2 (.one 5 (.one 7 (.one 1 (.one 3 (.one 6 (.one 8 (.one 4 (.one 9 (.one 10 (.one 11 (.one 12 (.done))))))))))))))], [], false⟩
/-- joust/joustref01.Clamp -/
noncomputable def fi130 : FI := ⟨codeOf Tryz.f130, [.tmp 6], .pure, [], [], [], false⟩
/-- joust/joustref09.asked -/
noncomputable def fi131 : FI := ⟨codeOf Tryz.f131, [.tmp 10], .pure, [([0, 1, 0, 1, 1, 1, 1], [1, 3, 4, 5, 7, 10, 11]), ([0, 1, 0, 1, 1, 1, 1, 1], [1, 4, 5, 7, 10, 12])], [(15, .one 1 (.one 2 (.one 3 (.one 0 (.one 4 (.one 5 (.one 6 (.one 7 (.one 8 (.one 9 (.one 10 (.one 11 (.one 13 (.one 12 (.one 14 (.one 15 (.one 16 (.one 17 (.one 18 (.one 19 (.one 20 (.one 22 (.one 21 (.one 23 (.one 24 (.one 25 (.one 26 (.done))))))))))))))))))))))))))))], [], false⟩
/-- joust/joustref09.Arrive -/
noncomputable def fi132 : FI := ⟨codeOf Tryz.f132, [.tmp 4], .pure, [([0, 1, 0, 1, 1], [1, 5, 6])], [], [], false⟩
/-- joust/joustref09.Present -/
noncomputable def fi133 : FI := ⟨codeOf Tryz.f133, [.tmp 4], .pure, [([0, 1, 0, 1, 1, 1], [5, 6, 7])], [], [([0, 1, 0, 1, 1, 1], [6])], false⟩
/-- joust/joustref09.Steer -/
noncomputable def fi134 : FI := ⟨codeOf Tryz.f134, [.cell 4 48, .tmp 5], .pure, [], [(3, .one 0 (.one 3 (.one 1 (.one 2 (.one 6 (.two 4 (.one 5 (.one 7 (.one 8 (.one 9 (.done))))) 7 (.one 4 (.one 5 (.one 8 (.one 9 (.done)))))))))))], [], false⟩
/-- (*joust/joustref09.making).room -/
noncomputable def fi135 : FI := ⟨codeOf Tryz.f135, [.tmp 2], .pure, [], [], [], false⟩
/-- joust/joustref09.Shoot -/
noncomputable def fi136 : FI := ⟨codeOf Tryz.f136, [.cell 6 48], .pure, [], [(1, .one 0 (.one 1 (.one 3 (.one 5 (.one 9 (.one 13 (.one 2 (.one 4 (.one 6 (.one 10 (.one 14 (.two 7 (.one 8 (.two 11 (.one 12 (.one 15 (.one 16 (.one 17 (.done))))) 16 (.one 11 (.one 12 (.one 15 (.one 17 (.done))))))) 16 (.one 7 (.one 8 (.one 11 (.one 12 (.one 15 (.one 17 (.done)))))))))))))))))))], [], false⟩
/-- (*joust/joustref09.making).next -/
noncomputable def fi137 : FI := ⟨codeOf Tryz.f137, [.tmp 2], .pure, [], [(1, .one 0 (.one 1 (.one 2 (.one 4 (.one 5 (.one 6 (.one 10 (.one 11 (.one 12 (.one 17 (.one 18 (.one 19 (.one 3 (.one 7 (.one 13 (.one 20 (.one 8 (.one 9 (.one 14 (.one 15 (.one 16 (.one 21 (.one 22 (.done))))))))))))))))))))))))], [], false⟩
/-- joust/joustref09.Go -/
noncomputable def fi138 : FI := ⟨codeOf Tryz.f138, [.cell 4 48, .tmp 5], .pure, [], [(5, .one 0 (.one 2 (.one 5 (.one 10 (.one 12 (.one 15 (.one 1 (.one 3 (.one 4 (.one 6 (.one 7 (.one 8 (.one 11 (.one 13 (.one 14 (.one 16 (.one 17 (.one 18 (.one 9 (.one 20 (.one 19 (.one 21 (.one 22 (.one 23 (.done)))))))))))))))))))))))))], [], false⟩
/-- joust/joustref09.Blasts -/
noncomputable def fi139 : FI := ⟨codeOf Tryz.f139, [.tmp 4], .pure, [([0, 1, 0, 0, 1, 0, 0, 1, 0, 1, 1], [1, 5, 6, 7]), ([0, 1, 0, 1, 1], [1, 5, 6])], [(8, .one 0 (.one 1 (.one 2 (.one 3 (.one 4 (.one 5 (.one 6 (.one 7 (.one 8 (.one 9 (.one 10 (.one 11 (.one 12 (.one 13 (.one 14 (.one 15 (.one 16 (.one 17 (.one 18 (.one 20 (.one 21 (.one 22 (.one 23 (.one 25 (.one 26 (.one 27 (.one 28 (.one 30 (.one 31 (.one 32 (.one 33 (.one 19 (.one 24 (.one 29 (.one 34 (.one 35 (.one 36 (.one 37 (.done)))))))))))))))))))))))))))))))))))))))], [], false⟩
/-- joust/joustref09.Gems -/
noncomputable def fi140 : FI := ⟨codeOf Tryz.f140, [.tmp 2], .pure, [], [], [], false⟩
/-- joust/joustref09.Shots -/
noncomputable def fi141 : FI := ⟨codeOf Tryz.f141, [.tmp 2], .pure, [], [], [], false⟩
/-- joust/joustref09.Fallen -/
noncomputable def fi142 : FI := ⟨codeOf Tryz.f142, [.tmp 2], .inout, [([0, 1, 0, 1, 1], [0, 3, 4])], [], [([0, 1, 0, 1, 1], [3])], false⟩
/-- (*joust/joustref09.making).place -/
noncomputable def fi143 : FI := ⟨codeOf Tryz.f143, [.tmp 8, .tmp 9], .pure, [], [(1, .one 0 (.one 1 (.one 2 (.one 4 (.one 5 (.one 6 (.one 3 (.one 7 (.one 8 (.one 9 (.one 10 (.one 11 (.one 12 (.one 13 (.done))))))))))))))), (2, .one 0 (.one 1 (.one 2 (.one 3 (.one 4 (.one 6 (.one 7 (.one 8 (.one 9 (.one 11 (.one 15 (.one 16 (.one 17 (.one 18 (.one 19 (.one 21 (.one 22 (.one 23 (.one 24 (.one 26 (.one 5 (.one 10 (.one 20 (.one 25 (.two 12 (.two 13 (.one 14 (.one 27 (.one 28 (.one 29 (.one 30 (.one 31 (.done))))))) 27 (.one 13 (.one 14 (.one 28 (.one 29 (.one 30 (.one 31 (.done)))))))) 27 (.one 12 (.one 13 (.one 14 (.one 28 (.one 29 (.one 30 (.one 31 (.done)))))))))))))))))))))))))))))))))], [], false⟩
/-- joust/joustref01.Below -/
noncomputable def fi144 : FI := ⟨codeOf Tryz.f144, [.tmp 6], .pure, [], [], [], false⟩
/-- joust/joustref05.Sort -/
noncomputable def fi145 : FI := ⟨codeOf Tryz.f145, [.tmp 2], .pure, [([0, 0, 1, 0, 0, 1, 0, 0, 1, 0, 1, 1], [0, 3, 4, 5]), ([0, 1, 0, 1, 1], [0, 3, 4])], [(6, .one 0 (.one 1 (.one 2 (.one 3 (.one 4 (.one 5 (.one 7 (.one 8 (.one 9 (.one 10 (.one 6 (.one 11 (.one 12 (.one 13 (.done))))))))))))))), (8, .one 0 (.one 1 (.one 2 (.one 4 (.one 5 (.one 6 (.one 10 (.one 11 (.one 12 (.one 7 (.two 3 (.one 8 (.one 9 (.one 13 (.one 14 (.done))))) 8 (.one 3 (.one 9 (.one 13 (.one 14 (.done))))))))))))))))], [([0, 1, 0, 1, 1], [3])], false⟩
/-- (joust/grid.Grid).is -/
noncomputable def fi146 : FI := ⟨codeOf Tryz.f146, [.tmp 4], .pure, [], [], [], false⟩
/-- slices.IndexFunc[[]joust/api.Entity,joust/api.Entity] -/
noncomputable def fi147 : FI := ⟨codeOf Tryz.f147, [.tmp 4], .pure, [([0, 1, 0, 1], [0, 1, 4, 7, 8])], [], [], false⟩
/-- joust/entity.Put$1 -/
noncomputable def fi148 : FI := ⟨codeOf Tryz.f148, [.tmp 3], .pure, [], [], [], false⟩
/-- slices.Insert[[]joust/api.Entity,joust/api.Entity] -/
noncomputable def fi149 : FI := ⟨codeOf Tryz.f149, [.tmp 6], .inout, [], [(11, .one 0 (.one 1 (.one 2 (.one 3 (.one 4 (.one 5 (.one 6 (.one 7 (.one 8 (.done)))))))))), (15, .one 0 (.one 1 (.one 2 (.one 3 (.one 4 (.one 5 (.one 6 (.one 7 (.one 8 (.done))))))))))], [], true⟩
/-- slices.DeleteFunc[[]joust/api.Cross,joust/api.Cross] -/
noncomputable def fi150 : FI := ⟨codeOf Tryz.f150, [.tmp 4], .inout, [([0, 1, 0, 1, 1, 1], [0, 1, 5, 6])], [], [], true⟩
/-- slices.Clone[[]joust/api.Cross,joust/api.Cross] -/
noncomputable def fi151 : FI := ⟨codeOf Tryz.f151, [.tmp 2], .fresh, [], [], [], true⟩
/-- joust/cross.To$1 -/
noncomputable def fi152 : FI := ⟨codeOf Tryz.f152, [.tmp 3], .pure, [], [], [], false⟩
/-- slices.stableCmpFunc[joust/api.Entity] -/
noncomputable def fi153 : FI := ⟨codeOf Tryz.f153, [], .inout, [([0, 0, 1, 0, 1, 0, 0, 1, 1, 1, 1], [0, 1, 2, 6, 7, 8]), ([0, 0, 1, 1], [0, 1, 2, 6, 7, 8]), ([0, 1, 1, 1, 1], [0, 1, 2, 6])], [], [], false⟩
/-- cmp.isNaN[int] -/
noncomputable def fi154 : FI := ⟨codeOf Tryz.f154, [.tmp 2], .pure, [], [], [], false⟩
/-- (joust/grid.Grid).Inside -/
noncomputable def fi155 : FI := ⟨codeOf Tryz.f155, [.tmp 6], .pure, [], [], [], false⟩
/-- joust/entity.within -/
noncomputable def fi156 : FI := ⟨codeOf Tryz.f156, [.tmp 6], .pure, [], [], [], false⟩
/-- joust/entity.pace -/
noncomputable def fi157 : FI := ⟨codeOf Tryz.f157, [.tmp 2], .pure, [], [], [], false⟩
/-- joust/fixed.Clamp -/
noncomputable def fi158 : FI := ⟨codeOf Tryz.f158, [.tmp 6], .pure, [], [], [], false⟩
/-- (joust/grid.Grid).Width -/
noncomputable def fi159 : FI := ⟨codeOf Tryz.f159, [.tmp 2], .pure, [], [], [], false⟩
/-- (joust/grid.Grid).Height -/
noncomputable def fi160 : FI := ⟨codeOf Tryz.f160, [.tmp 2], .pure, [], [], [], false⟩
/-- slices.IndexFunc[[]joust/api.Input,joust/api.Input] -/
noncomputable def fi161 : FI := ⟨codeOf Tryz.f161, [.tmp 4], .pure, [([0, 1, 0, 1], [0, 1, 4, 7, 8])], [], [], false⟩
/-- slices.IndexFunc[[]joust/api.Cross,joust/api.Cross] -/
noncomputable def fi162 : FI := ⟨codeOf Tryz.f162, [.tmp 4], .pure, [([0, 1, 0, 1], [0, 1, 4, 7, 8])], [], [], false⟩
/-- slices.Contains[[]int,int] -/
noncomputable def fi163 : FI := ⟨codeOf Tryz.f163, [.tmp 4], .pure, [], [], [], false⟩
/-- joust/moving.pace -/
noncomputable def fi164 : FI := ⟨codeOf Tryz.f164, [.tmp 2], .pure, [], [], [], false⟩
/-- joust/entity.Find$1 -/
noncomputable def fi165 : FI := ⟨codeOf Tryz.f165, [.tmp 3], .pure, [], [], [], false⟩
/-- joust/moving.sum -/
noncomputable def fi166 : FI := ⟨codeOf Tryz.f166, [.tmp 2], .pure, [], [], [], false⟩
/-- joust/fixed.Far -/
noncomputable def fi167 : FI := ⟨codeOf Tryz.f167, [.tmp 8], .pure, [], [], [], false⟩
/-- joust/fixed.Held -/
noncomputable def fi168 : FI := ⟨codeOf Tryz.f168, [.tmp 2], .pure, [], [], [], false⟩
/-- joust/hitting.meet$1 -/
noncomputable def fi169 : FI := ⟨codeOf Tryz.f169, [.tmp 5], .pure, [], [], [], false⟩
/-- joust/chance.At -/
noncomputable def fi170 : FI := ⟨codeOf Tryz.f170, [.tmp 4], .pure, [([0, 1, 0, 1, 1], [5, 10, 11, 12])], [], [], false⟩
/-- slices.Grow[[]joust/api.Cross,joust/api.Cross] -/
noncomputable def fi171 : FI := ⟨codeOf Tryz.f171, [.tmp 4], .inout, [], [], [], true⟩
/-- slices.stableCmpFunc[joust/api.Cross] -/
noncomputable def fi172 : FI := ⟨codeOf Tryz.f172, [], .inout, [([0, 0, 1, 0, 1, 0, 0, 1, 1, 1, 1], [0, 1, 2, 6, 7, 8]), ([0, 0, 1, 1], [0, 1, 2, 6, 7, 8]), ([0, 1, 1, 1, 1], [0, 1, 2, 6])], [], [], false⟩
/-- cmp.Or[int] -/
noncomputable def fi173 : FI := ⟨codeOf Tryz.f173, [.tmp 2], .pure, [([0, 1, 0, 1, 1], [2, 3, 6, 7, 8])], [], [], false⟩
/-- joust/joustref09.sign -/
noncomputable def fi174 : FI := ⟨codeOf Tryz.f174, [.tmp 2], .pure, [], [], [], false⟩
/-- joust/joustref01.Far -/
noncomputable def fi175 : FI := ⟨codeOf Tryz.f175, [.tmp 8], .pure, [], [], [], false⟩
/-- joust/joustref01.Held -/
noncomputable def fi176 : FI := ⟨codeOf Tryz.f176, [.tmp 2], .pure, [], [], [], false⟩
/-- joust/joustref09.touched -/
noncomputable def fi177 : FI := ⟨codeOf Tryz.f177, [.tmp 6], .pure, [([0, 1, 0, 1, 1, 1], [1, 2, 7, 8, 9]), ([0, 1, 0, 1, 1, 1, 1, 1, 1], [7, 8, 12, 13, 14])], [], [([0, 1, 0, 1, 1, 1], [8]), ([0, 1, 0, 1, 1, 1, 1, 1, 1], [12])], false⟩
/-- joust/joustref01.At -/
noncomputable def fi178 : FI := ⟨codeOf Tryz.f178, [.tmp 4], .pure, [([0, 1, 0, 1, 1], [1, 5, 6])], [], [], false⟩
/-- slices.rotateRight[joust/api.Entity] -/
noncomputable def fi180 : FI := ⟨codeOf Tryz.f180, [], .inout, [], [], [], false⟩
/-- slices.insertionSortCmpFunc[joust/api.Entity] -/
noncomputable def fi181 : FI := ⟨codeOf Tryz.f181, [], .inout, [([0, 1], [0, 1, 2, 3, 8]), ([0, 1, 0, 0, 1, 0, 0, 1], [0, 1, 2, 3, 8, 9])], [(4, .one 0 (.one 1 (.one 2 (.one 3 (.one 4 (.one 5 (.one 6 (.one 7 (.one 9 (.one 10 (.one 11 (.one 12 (.one 8 (.one 13 (.one 14 (.one 15 (.one 16 (.done)))))))))))))))))), (6, .one 0 (.one 1 (.one 2 (.one 3 (.one 4 (.one 5 (.one 6 (.one 7 (.one 8 (.one 10 (.one 11 (.one 12 (.one 9 (.one 13 (.one 14 (.one 15 (.one 16 (.one 17 (.done)))))))))))))))))))], [], false⟩
/-- slices.symMergeCmpFunc[joust/api.Entity] -/
noncomputable def fi182 : FI := ⟨codeOf Tryz.f182, [], .inout, [([0, 0, 1, 1, 0, 1, 0], [0, 1, 4, 10, 11]), ([0, 0, 1, 1, 0, 1, 0, 1], [0, 2, 4, 14, 15]), ([0, 0, 1, 1, 1, 1, 1, 1, 1], [0, 1, 2, 3, 4, 18, 19, 20, 21, 22]), ([0, 1, 0, 1, 1, 1, 0, 1, 0], [0, 10, 13]), ([0, 1, 0, 1, 1, 1, 0, 1, 0, 1], [0, 14, 17])], [(5, .one 0 (.one 1 (.one 2 (.one 3 (.one 5 (.one 6 (.one 7 (.one 4 (.one 8 (.one 9 (.one 10 (.done)))))))))))), (11, .one 0 (.one 1 (.one 2 (.one 3 (.one 4 (.one 5 (.one 6 (.one 7 (.one 8 (.one 10 (.one 11 (.one 12 (.one 9 (.one 13 (.one 14 (.one 15 (.one 16 (.one 17 (.done))))))))))))))))))), (17, .one 0 (.one 1 (.one 2 (.one 3 (.one 5 (.one 6 (.one 7 (.one 4 (.one 8 (.one 9 (.one 10 (.one 11 (.done))))))))))))), (23, .one 0 (.one 1 (.one 2 (.one 3 (.one 4 (.one 5 (.one 6 (.one 7 (.one 8 (.one 10 (.one 11 (.one 12 (.one 9 (.one 13 (.one 14 (.one 15 (.one 16 (.one 17 (.done))))))))))))))))))), (35, .one 0 (.one 1 (.one 2 (.one 3 (.one 4 (.one 5 (.one 7 (.one 8 (.one 9 (.one 6 (.one 10 (.one 11 (.one 12 (.one 13 (.done)))))))))))))))], [], false⟩
/-- slices.Index[[]int,int] -/
noncomputable def fi183 : FI := ⟨codeOf Tryz.f183, [.tmp 4], .pure, [([0, 1, 0, 1], [0, 1, 4, 7, 8])], [], [], false⟩
/-- joust/fixed.size -/
noncomputable def fi184 : FI := ⟨codeOf Tryz.f184, [.tmp 2], .pure, [], [], [], false⟩
/-- joust/chance.Mix -/
noncomputable def fi185 : FI := ⟨codeOf Tryz.f185, [.tmp 2], .pure, [], [], [], false⟩
/-- slices.insertionSortCmpFunc[joust/api.Cross] -/
noncomputable def fi186 : FI := ⟨codeOf Tryz.f186, [], .inout, [([0, 1], [0, 1, 2, 3, 8]), ([0, 1, 0, 0, 1, 0, 0, 1], [0, 1, 2, 3, 8, 9])], [(4, .one 0 (.one 1 (.one 2 (.one 3 (.one 4 (.one 5 (.one 6 (.one 7 (.one 9 (.one 10 (.one 11 (.one 12 (.one 8 (.one 13 (.one 14 (.one 15 (.one 16 (.done)))))))))))))))))), (6, .one 0 (.one 1 (.one 2 (.one 3 (.one 4 (.one 5 (.one 6 (.one 7 (.one 8 (.one 10 (.one 11 (.one 12 (.one 9 (.one 13 (.one 14 (.one 15 (.one 16 (.one 17 (.done)))))))))))))))))))], [], false⟩
/-- slices.symMergeCmpFunc[joust/api.Cross] -/
noncomputable def fi187 : FI := ⟨codeOf Tryz.f187, [], .inout, [([0, 0, 1, 1, 0, 1, 0], [0, 1, 4, 10, 11]), ([0, 0, 1, 1, 0, 1, 0, 1], [0, 2, 4, 14, 15]), ([0, 0, 1, 1, 1, 1, 1, 1, 1], [0, 1, 2, 3, 4, 18, 19, 20, 21, 22]), ([0, 1, 0, 1, 1, 1, 0, 1, 0], [0, 10, 13]), ([0, 1, 0, 1, 1, 1, 0, 1, 0, 1], [0, 14, 17])], [(5, .one 0 (.one 1 (.one 2 (.one 3 (.one 5 (.one 6 (.one 7 (.one 4 (.one 8 (.one 9 (.one 10 (.done)))))))))))), (11, .one 0 (.one 1 (.one 2 (.one 3 (.one 4 (.one 5 (.one 6 (.one 7 (.one 8 (.one 10 (.one 11 (.one 12 (.one 9 (.one 13 (.one 14 (.one 15 (.one 16 (.one 17 (.done))))))))))))))))))), (17, .one 0 (.one 1 (.one 2 (.one 3 (.one 5 (.one 6 (.one 7 (.one 4 (.one 8 (.one 9 (.one 10 (.one 11 (.done))))))))))))), (23, .one 0 (.one 1 (.one 2 (.one 3 (.one 4 (.one 5 (.one 6 (.one 7 (.one 8 (.one 10 (.one 11 (.one 12 (.one 9 (.one 13 (.one 14 (.one 15 (.one 16 (.one 17 (.done))))))))))))))))))), (35, .one 0 (.one 1 (.one 2 (.one 3 (.one 4 (.one 5 (.one 7 (.one 8 (.one 9 (.one 6 (.one 10 (.one 11 (.one 12 (.one 13 (.done)))))))))))))))], [], false⟩
/-- joust/joustref01.size -/
noncomputable def fi188 : FI := ⟨codeOf Tryz.f188, [.tmp 2], .pure, [], [], [], false⟩
/-- joust/joustref01.Sub -/
noncomputable def fi189 : FI := ⟨codeOf Tryz.f189, [.tmp 4], .pure, [], [], [], false⟩
/-- joust/joustref09.hit -/
noncomputable def fi190 : FI := ⟨codeOf Tryz.f190, [.tmp 8], .pure, [([0, 1, 0, 1], [0, 2, 3, 5, 8, 9])], [(4, .one 0 (.one 1 (.one 2 (.one 3 (.one 4 (.one 5 (.one 6 (.one 7 (.one 8 (.one 9 (.one 10 (.one 11 (.one 12 (.one 13 (.one 14 (.one 16 (.one 15 (.one 17 (.one 18 (.one 19 (.one 20 (.one 21 (.one 22 (.one 23 (.one 24 (.one 26 (.one 27 (.one 28 (.one 29 (.one 31 (.one 33 (.one 36 (.one 25 (.one 30 (.one 32 (.one 34 (.one 35 (.one 37 (.one 38 (.done))))))))))))))))))))))))))))))))))))))))], [], false⟩
/-- joust/joustref01.Mix -/
noncomputable def fi191 : FI := ⟨codeOf Tryz.f191, [.tmp 2], .pure, [], [], [], false⟩
/-- slices.rotateLeft[joust/api.Entity] -/
noncomputable def fi192 : FI := ⟨codeOf Tryz.f192, [], .inout, [], [], [], false⟩
/-- slices.rotateCmpFunc[joust/api.Entity] -/
noncomputable def fi193 : FI := ⟨codeOf Tryz.f193, [], .inout, [([0, 0, 1, 1], [0, 2, 4, 10, 11])], [], [], false⟩
/-- slices.rotateCmpFunc[joust/api.Cross] -/
noncomputable def fi194 : FI := ⟨codeOf Tryz.f194, [], .inout, [([0, 0, 1, 1], [0, 2, 4, 10, 11])], [], [], false⟩
/-- slices.Reverse[[]joust/api.Entity,joust/api.Entity] -/
noncomputable def fi195 : FI := ⟨codeOf Tryz.f195, [], .inout, [([0, 1], [0, 2, 3])], [(3, .one 0 (.one 1 (.one 2 (.one 3 (.one 4 (.one 5 (.one 6 (.one 8 (.one 9 (.one 10 (.one 7 (.one 11 (.one 12 (.one 13 (.one 14 (.one 15 (.done)))))))))))))))))], [], false⟩
/-- slices.swapRangeCmpFunc[joust/api.Entity] -/
noncomputable def fi196 : FI := ⟨codeOf Tryz.f196, [], .inout, [([0, 1], [0, 1, 2, 3, 10])], [(3, .one 0 (.one 1 (.one 2 (.one 3 (.one 4 (.one 5 (.one 6 (.one 7 (.one 8 (.one 9 (.one 10 (.one 11 (.one 12 (.one 14 (.one 15 (.one 16 (.one 17 (.one 18 (.one 13 (.one 19 (.one 20 (.one 21 (.one 22 (.one 23 (.done)))))))))))))))))))))))))], [], false⟩
/-- slices.swapRangeCmpFunc[joust/api.Cross] -/
noncomputable def fi197 : FI := ⟨codeOf Tryz.f197, [], .inout, [([0, 1], [0, 1, 2, 3, 10])], [(3, .one 0 (.one 1 (.one 2 (.one 3 (.one 4 (.one 5 (.one 6 (.one 7 (.one 8 (.one 9 (.one 10 (.one 11 (.one 12 (.one 14 (.one 15 (.one 16 (.one 17 (.one 18 (.one 13 (.one 19 (.one 20 (.one 21 (.one 22 (.one 23 (.done)))))))))))))))))))))))))], [], false⟩
noncomputable def fns : Tr (Option FI) :=
  (.n (.n (.n (.n (.n (.n (.n (.n .z (some fi127) .z) (some fi63) (.n .z (some fi191) .z)) (some fi31) (.n (.n .z (some fi159) .z) (some fi95) .z)) (some fi15) (.n (.n (.n .z (some
  fi143) .z) (some fi79) (.n .z none .z)) (some fi47) (.n (.n .z (some fi175) .z) (some fi111) .z))) (some fi7) (.n (.n (.n (.n .z (some fi135) .z) (some fi71) (.n .z none .z)) (some
  fi39) (.n (.n .z (some fi167) .z) (some fi103) .z)) (some fi23) (.n (.n (.n .z (some fi151) .z) (some fi87) .z) (some fi55) (.n (.n .z (some fi183) .z) (some fi119) .z)))) (some
  fi3) (.n (.n (.n (.n (.n .z (some fi131) .z) (some fi67) (.n .z (some fi195) .z)) (some fi35) (.n (.n .z (some fi163) .z) (some fi99) .z)) (some fi19) (.n (.n (.n .z (some fi147)
  .z) (some fi83) (.n .z none .z)) (some fi51) (.n (.n .z none .z) (some fi115) .z))) (some fi11) (.n (.n (.n (.n .z (some fi139) .z) (some fi75) (.n .z none .z)) (some fi43) (.n (.n
  .z (some fi171) .z) (some fi107) .z)) (some fi27) (.n (.n (.n .z (some fi155) .z) (some fi91) .z) (some fi59) (.n (.n .z (some fi187) .z) (some fi123) .z))))) none (.n (.n (.n (.n
  (.n (.n .z (some fi129) .z) (some fi65) (.n .z (some fi193) .z)) (some fi33) (.n (.n .z (some fi161) .z) (some fi97) .z)) (some fi17) (.n (.n (.n .z (some fi145) .z) (some fi81)
  (.n .z none .z)) (some fi49) (.n (.n .z (some fi177) .z) (some fi113) .z))) (some fi9) (.n (.n (.n (.n .z (some fi137) .z) (some fi73) (.n .z none .z)) (some fi41) (.n (.n .z (some
  fi169) .z) (some fi105) .z)) (some fi25) (.n (.n (.n .z (some fi153) .z) (some fi89) .z) (some fi57) (.n (.n .z (some fi185) .z) (some fi121) .z)))) (some fi5) (.n (.n (.n (.n (.n
  .z (some fi133) .z) (some fi69) (.n .z (some fi197) .z)) (some fi37) (.n (.n .z (some fi165) .z) (some fi101) .z)) (some fi21) (.n (.n (.n .z (some fi149) .z) (some fi85) (.n .z
  none .z)) (some fi53) (.n (.n .z (some fi181) .z) (some fi117) .z))) (some fi13) (.n (.n (.n (.n .z (some fi141) .z) (some fi77) (.n .z none .z)) (some fi45) (.n (.n .z (some
  fi173) .z) (some fi109) .z)) (some fi29) (.n (.n (.n .z (some fi157) .z) (some fi93) .z) (some fi61) (.n (.n .z (some fi189) .z) (some fi125) .z)))))) none (.n (.n (.n (.n (.n (.n
  (.n .z (some fi128) .z) (some fi64) (.n .z (some fi192) .z)) (some fi32) (.n (.n .z (some fi160) .z) (some fi96) .z)) (some fi16) (.n (.n (.n .z (some fi144) .z) (some fi80) (.n .z
  none .z)) (some fi48) (.n (.n .z (some fi176) .z) (some fi112) .z))) (some fi8) (.n (.n (.n (.n .z (some fi136) .z) (some fi72) (.n .z none .z)) (some fi40) (.n (.n .z (some fi168)
  .z) (some fi104) .z)) (some fi24) (.n (.n (.n .z (some fi152) .z) (some fi88) .z) (some fi56) (.n (.n .z (some fi184) .z) (some fi120) .z)))) (some fi4) (.n (.n (.n (.n (.n .z
  (some fi132) .z) (some fi68) (.n .z (some fi196) .z)) (some fi36) (.n (.n .z (some fi164) .z) (some fi100) .z)) (some fi20) (.n (.n (.n .z (some fi148) .z) (some fi84) (.n .z none
  .z)) (some fi52) (.n (.n .z (some fi180) .z) (some fi116) .z))) (some fi12) (.n (.n (.n (.n .z (some fi140) .z) (some fi76) (.n .z none .z)) (some fi44) (.n (.n .z (some fi172) .z)
  (some fi108) .z)) (some fi28) (.n (.n (.n .z (some fi156) .z) (some fi92) .z) (some fi60) (.n (.n .z (some fi188) .z) (some fi124) .z))))) none (.n (.n (.n (.n (.n (.n .z (some
  fi130) .z) (some fi66) (.n .z (some fi194) .z)) (some fi34) (.n (.n .z (some fi162) .z) (some fi98) .z)) (some fi18) (.n (.n (.n .z (some fi146) .z) (some fi82) (.n .z none .z))
  (some fi50) (.n (.n .z (some fi178) .z) (some fi114) .z))) (some fi10) (.n (.n (.n (.n .z (some fi138) .z) (some fi74) (.n .z none .z)) (some fi42) (.n (.n .z (some fi170) .z)
  (some fi106) .z)) (some fi26) (.n (.n (.n .z (some fi154) .z) (some fi90) .z) (some fi58) (.n (.n .z (some fi186) .z) (some fi122) .z)))) (some fi6) (.n (.n (.n (.n (.n .z (some
  fi134) .z) (some fi70) (.n .z none .z)) (some fi38) (.n (.n .z (some fi166) .z) (some fi102) .z)) (some fi22) (.n (.n (.n .z (some fi150) .z) (some fi86) .z) (some fi54) (.n (.n .z
  (some fi182) .z) (some fi118) .z))) (some fi14) (.n (.n (.n (.n .z (some fi142) .z) (some fi78) (.n .z none .z)) (some fi46) (.n (.n .z (some fi174) .z) (some fi110) .z)) (some
  fi30) (.n (.n (.n .z (some fi158) .z) (some fi94) .z) (some fi62) (.n (.n .z (some fi190) .z) (some fi126) .z)))))))
noncomputable def cx : Cx := ⟨tis, fns, [(179, .overlaps 25)]⟩
end Go.Eva.S3

/- Eva, part 41: the program's plain data, and how it stands as trees. -/
namespace Go.Eva

structure Entity where
  id : Int
  kind : Int
  x : Int
  y : Int
  vx : Int
  vy : Int
  health : Int
  age : Int
  owner : Int
deriving DecidableEq, Inhabited
def Entity.enc (e : Entity) : T := .agg [ti e.id, ti e.kind, ti e.x, ti e.y, ti e.vx, ti e.vy, ti e.health, ti e.age, ti e.owner]

structure Config where
  cols : Int
  rows : Int
  players : Int
  window : Int
  seed : Int
deriving DecidableEq, Inhabited
def Config.enc (c : Config) : T := .agg [ti c.cols, ti c.rows, ti c.players, ti c.window, .int .u64 c.seed]

structure Input where
  dx : Int
  dy : Int
  fire : Bool
deriving DecidableEq, Inhabited
def Input.enc (i : Input) : T := .agg [ti i.dx, ti i.dy, .bool i.fire]

structure Cross where
  kind : Int
  frm : Int
  to : Int
  frame : Int
  ent : Entity
  x : Int
  y : Int
deriving DecidableEq, Inhabited
def Cross.enc (c : Cross) : T := .agg [ti c.kind, ti c.frm, ti c.to, ti c.frame, ti c.ent.id, ti c.ent.kind, ti c.ent.x, ti c.ent.y, ti c.ent.vx, ti c.ent.vy, ti c.ent.health, ti c.ent.age, ti c.ent.owner, ti c.x, ti c.y]

structure Region where
  frame : Int
  ents : List Entity
deriving DecidableEq, Inhabited
def Region.enc (s : Region) : T := .agg [ti s.frame, .sl 9 (s.ents.map Entity.enc)]

theorem Entity.enc_inj {a b : Entity} : a.enc = b.enc ↔ a = b := by
  constructor
  · intro h; cases a; cases b; simp only [enc, T.agg.injEq, List.cons.injEq, T.int.injEq, true_and, and_true] at h; simpa using h
  · intro h; rw [h]
theorem Input.enc_inj {a b : Input} : a.enc = b.enc ↔ a = b := by
  constructor
  · intro h; cases a; cases b; simp only [enc, T.agg.injEq, List.cons.injEq, T.int.injEq, T.bool.injEq, true_and, and_true] at h; simpa using h
  · intro h; rw [h]
theorem Cross.enc_inj {a b : Cross} : a.enc = b.enc ↔ a = b := by
  constructor
  · intro h; obtain ⟨_, _, _, _, ⟨_, _, _, _, _, _, _, _, _⟩, _, _⟩ := a; obtain ⟨_, _, _, _, ⟨_, _, _, _, _, _, _, _, _⟩, _, _⟩ := b
    simp only [enc, T.agg.injEq, List.cons.injEq, T.int.injEq, true_and, and_true] at h
    simp only [Cross.mk.injEq, Entity.mk.injEq]; simp_all
  · intro h; rw [h]
theorem Config.enc_inj {a b : Config} : a.enc = b.enc ↔ a = b := by
  constructor
  · intro h; cases a; cases b; simp only [enc, T.agg.injEq, List.cons.injEq, T.int.injEq, true_and, and_true] at h; simpa using h
  · intro h; rw [h]
theorem teqIff {x y : T} : teq x y = true ↔ x = y := by unfold teq; simp
end Go.Eva

/- Eva, part 42: what the lowest layers reckon, in plain words. -/
namespace Go.Eva

def within (v lo hi : Int) : Bool := decide (lo ≤ v) && decide (v ≤ hi)
def Config.right (c : Config) : Bool := within c.cols 1 4 && within c.rows 1 4 && within c.players 1 6 && within c.window 1 16
def Config.zero : Config := ⟨0, 0, 0, 0, 0⟩
/-- The grid of an arena. -/
def Config.grid (c : Config) : Config := if c.right = true then c else Config.zero
def Config.err (c : Config) : Int := if c.right = true then 0 else 10
def Config.regions (c : Config) : Int := if c.right = true then c.cols * c.rows else 0
def Config.width (c : Config) : Int := if c.right = true then c.cols * 1024 else 0
def Config.height (c : Config) : Int := if c.right = true then c.rows * 1024 else 0
def Config.inside (c : Config) (x y : Int) : Bool := within x 0 (c.width - 1) && within y 0 (c.height - 1)
def clamp (v lo hi : Int) : Int := if v < lo then lo else if v > hi then hi else v
def Config.of (c : Config) (x y : Int) : Int := if c.right = true then (clamp y 0 (c.height - 1)).tdiv 1024 * c.cols + (clamp x 0 (c.width - 1)).tdiv 1024 else 0
def Config.is (c : Config) (r : Int) : Bool := within r 0 (c.regions - 1)
def Config.cornerX (c : Config) (r : Int) : Int := if c.is r = true then r.tmod c.cols * 1024 else 0
def Config.cornerY (c : Config) (r : Int) : Int := if c.is r = true then r.tdiv c.cols * 1024 else 0

/-- A number of 64 bits. -/
def i64 (n : Int) : Prop := -9223372036854775808 ≤ n ∧ n ≤ 9223372036854775807
def Config.ok (c : Config) : Prop := i64 c.cols ∧ i64 c.rows ∧ i64 c.players ∧ i64 c.window ∧ 0 ≤ c.seed ∧ c.seed ≤ 18446744073709551615

theorem within_iff {v lo hi : Int} : within v lo hi = true ↔ lo ≤ v ∧ v ≤ hi := by simp [within]
theorem Config.right_iff {c : Config} : c.right = true ↔ (1 ≤ c.cols ∧ c.cols ≤ 4) ∧ (1 ≤ c.rows ∧ c.rows ≤ 4) ∧ (1 ≤ c.players ∧ c.players ≤ 6) ∧ 1 ≤ c.window ∧ c.window ≤ 16 := by
  simp [Config.right, within_iff, and_assoc]
theorem Config.regions_le {c : Config} : 0 ≤ c.regions ∧ c.regions ≤ 16 := by
  unfold Config.regions
  split
  · rename_i h
    obtain ⟨h1, h2, _⟩ := Config.right_iff.1 h
    have h3 : c.cols = 1 ∨ c.cols = 2 ∨ c.cols = 3 ∨ c.cols = 4 := by omega
    rcases h3 with h3 | h3 | h3 | h3 <;> rw [h3] <;> omega
  · omega
theorem Config.width_le {c : Config} : 0 ≤ c.width ∧ c.width ≤ 4096 := by
  unfold Config.width
  split
  · rename_i h
    have := Config.right_iff.1 h
    omega
  · omega
theorem Config.height_le {c : Config} : 0 ≤ c.height ∧ c.height ≤ 4096 := by
  unfold Config.height
  split
  · rename_i h
    have := Config.right_iff.1 h
    omega
  · omega
theorem Config.mul_le {c : Config} (h : c.right = true) : 1 ≤ c.cols * c.rows ∧ c.cols * c.rows ≤ 16 := by
  obtain ⟨h1, h2, _⟩ := Config.right_iff.1 h
  have h3 : c.cols = 1 ∨ c.cols = 2 ∨ c.cols = 3 ∨ c.cols = 4 := by omega
  rcases h3 with h3 | h3 | h3 | h3 <;> rw [h3] <;> omega
theorem clamp_le {v lo hi : Int} (h : lo ≤ hi) : lo ≤ clamp v lo hi ∧ clamp v lo hi ≤ hi := by unfold clamp; split <;> (try split) <;> omega
theorem tdiv_le {v k m : Int} (hk : 0 < k) (h : 0 ≤ v) (h2 : v < k * m) : 0 ≤ v.tdiv k ∧ v.tdiv k < m := by
  rw [Int.tdiv_eq_ediv_of_nonneg h]
  refine ⟨Int.ediv_nonneg h (by omega), ?_⟩
  exact Int.ediv_lt_of_lt_mul hk (by rw [Int.mul_comm]; exact h2)
theorem tmod_le {v k : Int} (hk : 0 < k) (h : 0 ≤ v) : 0 ≤ v.tmod k ∧ v.tmod k < k := by
  rw [Int.tmod_eq_emod_of_nonneg h]
  exact ⟨Int.emod_nonneg _ (by omega), Int.emod_lt_of_pos _ hk⟩
theorem mul4 {a b : Int} (ha : 0 ≤ a ∧ a ≤ 4) (hb : 0 ≤ b ∧ b ≤ 4) : 0 ≤ a * b ∧ a * b ≤ 16 := by
  obtain ⟨h1, h2⟩ := ha
  have h3 : a = 0 ∨ a = 1 ∨ a = 2 ∨ a = 3 ∨ a = 4 := by omega
  rcases h3 with h3 | h3 | h3 | h3 | h3 <;> subst h3 <;> omega
end Go.Eva

/- Functions of the lowest layers (fixed, grid): what each answers. -/
namespace Go.Eva.S3
theorem f_grid_within (v lo hi : Int) : Fn cx 91 [ti v, ti lo, ti hi] (.bool (within v lo hi)) := by
  refine Wp.ev ?_
  refine brp (p := v ≥ lo) (by kernel_rfl) (fun h1 => ?_) (fun h1 => ?_)
  · refine gg [.tt, .tt, .tt] trivial ?_
    refine rt (a := Res.mk Ex.ret [vb (decide (v ≤ hi))] []) (by kernel_rfl) ?_
    (simp_all [within]; (try (rw [Bool.eq_iff_iff]; simp only [decide_eq_true_eq, Bool.and_eq_true]; omega)); (try (intros; omega)))
  · refine gg [.ff, .ff, .ff] trivial ?_
    refine rt (a := Res.mk Ex.ret [vb false] []) (by kernel_rfl) ?_
    (simp_all [within]; (try (rw [Bool.eq_iff_iff]; simp only [decide_eq_true_eq, Bool.and_eq_true]; omega)); (try (intros; omega)))
theorem f_entity_within (v lo hi : Int) : Fn cx 156 [ti v, ti lo, ti hi] (.bool (within v lo hi)) := by
  refine Wp.ev ?_
  refine brp (p := v ≥ lo) (by kernel_rfl) (fun h1 => ?_) (fun h1 => ?_)
  · refine gg [.tt, .tt, .tt] trivial ?_
    refine rt (a := Res.mk Ex.ret [vb (decide (v ≤ hi))] []) (by kernel_rfl) ?_
    (simp_all [within]; (try (rw [Bool.eq_iff_iff]; simp only [decide_eq_true_eq, Bool.and_eq_true]; omega)); (try (intros; omega)))
  · refine gg [.ff, .ff, .ff] trivial ?_
    refine rt (a := Res.mk Ex.ret [vb false] []) (by kernel_rfl) ?_
    (simp_all [within]; (try (rw [Bool.eq_iff_iff]; simp only [decide_eq_true_eq, Bool.and_eq_true]; omega)); (try (intros; omega)))
theorem f_grid_right (c : Config) : Fn cx 53 [c.enc] (.bool c.right) := by
  refine Wp.ev ?_
  refine gg [.a _ _] ⟨o_a (f_grid_within c.cols 1 4), trivial⟩ ?_
  refine br (b := within c.cols 1 4) (by kernel_rfl) (fun h1 => ?_) (fun h1 => ?_)
  · refine gg [.tt, .tt, .a _ _, .tt] ⟨o_a (f_grid_within c.rows 1 4), trivial⟩ ?_
    refine br (b := within c.rows 1 4) (by kernel_rfl) (fun h2 => ?_) (fun h2 => ?_)
    · refine gg [.tt, .tt, .a _ _, .tt] ⟨o_a (f_grid_within c.players 1 6), trivial⟩ ?_
      refine br (b := within c.players 1 6) (by kernel_rfl) (fun h3 => ?_) (fun h3 => ?_)
      · refine gg [.tt, .tt, .a _ _, .tt] ⟨o_a (f_grid_within c.window 1 16), trivial⟩ ?_
        refine rt (a := Res.mk Ex.ret [vb (within c.window 1 16)] []) (by kernel_rfl) ?_
        simp_all [Config.right]
      · refine gg [.ff, .ff, .ff] trivial ?_
        refine rt (a := Res.mk Ex.ret [vb false] []) (by kernel_rfl) ?_
        simp_all [Config.right]
    · refine gg [.ff, .ff, .ff, .ff, .ff, .ff, .ff] trivial ?_
      refine rt (a := Res.mk Ex.ret [vb false] []) (by kernel_rfl) ?_
      simp_all [Config.right]
  · refine gg [.ff, .ff, .ff, .ff, .ff, .ff, .ff, .ff, .ff, .ff, .ff] trivial ?_
    refine rt (a := Res.mk Ex.ret [vb false] []) (by kernel_rfl) ?_
    simp_all [Config.right]
theorem f_grid_New (c : Config) : Is cx (.call 17 [.t c.enc] []) ⟨.ret, [.t c.grid.enc, vi c.err], []⟩ := by
  refine Wp.ev ?_
  refine gg [.a _ _] ⟨o_a (f_grid_right c), trivial⟩ ?_
  refine brnot (b := Config.right c) (by kernel_rfl) (fun h1 => ?_) (fun h1 => ?_)
  · refine rt (a := Res.mk Ex.ret [V.t (T.agg [ti 0, ti 0, ti 0, ti 0, T.int IntKind.u64 0]), vi 10] []) (by kernel_rfl) ?_
    simp_all [Config.grid, Config.err, Config.zero, Config.enc]
  · refine rt (a := Res.mk Ex.ret [V.t (Config.enc c), vi 0] []) (by kernel_rfl) ?_
    simp_all [Config.grid, Config.err, Config.zero, Config.enc]
theorem f_grid_size_t (c : Config) (h : c.right = true) : Is cx (.call 55 [.t c.enc] []) ⟨.ret, [vi c.cols, vi c.rows], []⟩ := by
  refine Wp.ev ?_
  refine gg [.a _ _, .b (!Config.right c) false] ⟨o_a (f_grid_right c), f_brnot (by assumption), trivial⟩ ?_
  exact ge
theorem f_grid_size_f (c : Config) (h : c.right = false) : Is cx (.call 55 [.t c.enc] []) ⟨.ret, [vi 0, vi 0], []⟩ := by
  refine Wp.ev ?_
  refine gg [.a _ _, .b (!Config.right c) true] ⟨o_a (f_grid_right c), t_brnot (by assumption), trivial⟩ ?_
  exact ge
theorem f_fixed_Clamp (v lo hi : Int) : Fn cx 158 [ti v, ti lo, ti hi] (ti (clamp v lo hi)) := by
  refine Wp.ev ?_
  refine brp (p := v < lo) (by kernel_rfl) (fun h1 => ?_) (fun h1 => ?_)
  · refine rt (a := Res.mk Ex.ret [vi lo] []) (by kernel_rfl) ?_
    (simp_all [clamp]; (try (rw [Bool.eq_iff_iff]; simp only [decide_eq_true_eq, Bool.and_eq_true]; omega)); (try (intros; omega)))
  · refine brp (p := v > hi) (by kernel_rfl) (fun h2 => ?_) (fun h2 => ?_)
    · refine rt (a := Res.mk Ex.ret [vi hi] []) (by kernel_rfl) ?_
      (simp_all [clamp]; (try (rw [Bool.eq_iff_iff]; simp only [decide_eq_true_eq, Bool.and_eq_true]; omega)); (try (intros; omega)))
    · refine rt (a := Res.mk Ex.ret [vi v] []) (by kernel_rfl) ?_
      (simp_all [clamp]; (try (rw [Bool.eq_iff_iff]; simp only [decide_eq_true_eq, Bool.and_eq_true]; omega)); (try (intros; omega)))
theorem f_joustref03_Right (c : Config) : Fn cx 52 [c.enc] (.bool c.right) := by
  refine Wp.ev ?_
  refine brp (p := c.cols ≥ 1) (by kernel_rfl) (fun h1 => ?_) (fun h1 => ?_)
  · refine gg [.tt, .tt, .tt] trivial ?_
    refine brp (p := c.cols ≤ 4) (by kernel_rfl) (fun h2 => ?_) (fun h2 => ?_)
    · refine gg [.tt, .tt, .tt] trivial ?_
      refine brp (p := c.rows ≥ 1) (by kernel_rfl) (fun h3 => ?_) (fun h3 => ?_)
      · refine gg [.tt, .tt, .tt] trivial ?_
        refine brp (p := c.rows ≤ 4) (by kernel_rfl) (fun h4 => ?_) (fun h4 => ?_)
        · refine gg [.tt, .tt, .tt] trivial ?_
          refine brp (p := c.players ≥ 1) (by kernel_rfl) (fun h5 => ?_) (fun h5 => ?_)
          · refine gg [.tt, .tt, .tt] trivial ?_
            refine brp (p := c.players ≤ 6) (by kernel_rfl) (fun h6 => ?_) (fun h6 => ?_)
            · refine gg [.tt, .tt, .tt] trivial ?_
              refine brp (p := c.window ≥ 1) (by kernel_rfl) (fun h7 => ?_) (fun h7 => ?_)
              · refine gg [.tt, .tt, .tt] trivial ?_
                refine rt (a := Res.mk Ex.ret [vb (decide (c.window ≤ 16))] []) (by kernel_rfl) ?_
                (simp_all [Config.right, within]; (try (rw [Bool.eq_iff_iff]; simp only [decide_eq_true_eq, Bool.and_eq_true]; omega)); (try (intros; omega)))
              · refine gg [.ff, .ff, .ff] trivial ?_
                refine rt (a := Res.mk Ex.ret [vb false] []) (by kernel_rfl) ?_
                (simp_all [Config.right, within]; (try (rw [Bool.eq_iff_iff]; simp only [decide_eq_true_eq, Bool.and_eq_true]; omega)); (try (intros; omega)))
            · refine gg [.ff, .ff, .ff, .ff, .ff, .ff, .ff] trivial ?_
              refine rt (a := Res.mk Ex.ret [vb false] []) (by kernel_rfl) ?_
              (simp_all [Config.right, within]; (try (rw [Bool.eq_iff_iff]; simp only [decide_eq_true_eq, Bool.and_eq_true]; omega)); (try (intros; omega)))
          · refine gg [.ff, .ff, .ff, .ff, .ff, .ff, .ff, .ff, .ff, .ff, .ff] trivial ?_
            refine rt (a := Res.mk Ex.ret [vb false] []) (by kernel_rfl) ?_
            (simp_all [Config.right, within]; (try (rw [Bool.eq_iff_iff]; simp only [decide_eq_true_eq, Bool.and_eq_true]; omega)); (try (intros; omega)))
        · refine gg [.ff, .ff, .ff, .ff, .ff, .ff, .ff, .ff, .ff, .ff, .ff, .ff, .ff, .ff, .ff] trivial ?_
          refine rt (a := Res.mk Ex.ret [vb false] []) (by kernel_rfl) ?_
          (simp_all [Config.right, within]; (try (rw [Bool.eq_iff_iff]; simp only [decide_eq_true_eq, Bool.and_eq_true]; omega)); (try (intros; omega)))
      · refine gg [.ff, .ff, .ff, .ff, .ff, .ff, .ff, .ff, .ff, .ff, .ff, .ff, .ff, .ff, .ff, .ff] trivial ?_
        refine gg [.ff, .ff, .ff] trivial ?_
        refine rt (a := Res.mk Ex.ret [vb false] []) (by kernel_rfl) ?_
        (simp_all [Config.right, within]; (try (rw [Bool.eq_iff_iff]; simp only [decide_eq_true_eq, Bool.and_eq_true]; omega)); (try (intros; omega)))
    · refine gg [.ff, .ff, .ff, .ff, .ff, .ff, .ff, .ff, .ff, .ff, .ff, .ff, .ff, .ff, .ff, .ff] trivial ?_
      refine gg [.ff, .ff, .ff, .ff, .ff, .ff, .ff] trivial ?_
      refine rt (a := Res.mk Ex.ret [vb false] []) (by kernel_rfl) ?_
      (simp_all [Config.right, within]; (try (rw [Bool.eq_iff_iff]; simp only [decide_eq_true_eq, Bool.and_eq_true]; omega)); (try (intros; omega)))
  · refine gg [.ff, .ff, .ff, .ff, .ff, .ff, .ff, .ff, .ff, .ff, .ff, .ff, .ff, .ff, .ff, .ff] trivial ?_
    refine gg [.ff, .ff, .ff, .ff, .ff, .ff, .ff, .ff, .ff, .ff, .ff] trivial ?_
    refine rt (a := Res.mk Ex.ret [vb false] []) (by kernel_rfl) ?_
    (simp_all [Config.right, within]; (try (rw [Bool.eq_iff_iff]; simp only [decide_eq_true_eq, Bool.and_eq_true]; omega)); (try (intros; omega)))
theorem f_grid_Regions (c : Config) : Fn cx 19 [c.enc] (ti c.regions) := by
  cases h : c.right with
  | true =>
    have h2 := Config.mul_le h
    refine Wp.ev ?_
    refine gg [.a _ _, .i IntKind.i64 (c.cols * c.rows) (c.cols * c.rows)] ⟨o_a (f_grid_size_t c (by assumption)), oI, trivial⟩ ?_
    refine rt (a := Res.mk Ex.ret [vi (c.cols * c.rows)] []) (by kernel_rfl) ?_
    simp [Config.regions, h]
  | false => refine Wp.ev ?_
             refine gg [.a _ _, .i IntKind.i64 0 0] ⟨o_a (f_grid_size_f c (by assumption)), oK, trivial⟩ ?_
             refine rt (a := Res.mk Ex.ret [vi 0] []) (by kernel_rfl) ?_
             simp [Config.regions, h]
theorem f_grid_Width (c : Config) : Fn cx 159 [c.enc] (ti c.width) := by
  cases h : c.right with
  | true =>
    have h2 := Config.right_iff.1 h
    refine Wp.ev ?_
    refine gg [.a _ _, .i IntKind.i64 (c.cols * 1024) (c.cols * 1024)] ⟨o_a (f_grid_size_t c (by assumption)), oI, trivial⟩ ?_
    refine rt (a := Res.mk Ex.ret [vi (c.cols * 1024)] []) (by kernel_rfl) ?_
    simp [Config.width, h]
  | false => refine Wp.ev ?_
             refine gg [.a _ _, .i IntKind.i64 0 0] ⟨o_a (f_grid_size_f c (by assumption)), oK, trivial⟩ ?_
             refine rt (a := Res.mk Ex.ret [vi 0] []) (by kernel_rfl) ?_
             simp [Config.width, h]
theorem f_grid_Height (c : Config) : Fn cx 160 [c.enc] (ti c.height) := by
  cases h : c.right with
  | true =>
    have h2 := Config.right_iff.1 h
    refine Wp.ev ?_
    refine gg [.a _ _, .i IntKind.i64 (c.rows * 1024) (c.rows * 1024)] ⟨o_a (f_grid_size_t c (by assumption)), oI, trivial⟩ ?_
    refine rt (a := Res.mk Ex.ret [vi (c.rows * 1024)] []) (by kernel_rfl) ?_
    simp [Config.height, h]
  | false => refine Wp.ev ?_
             refine gg [.a _ _, .i IntKind.i64 0 0] ⟨o_a (f_grid_size_f c (by assumption)), oK, trivial⟩ ?_
             refine rt (a := Res.mk Ex.ret [vi 0] []) (by kernel_rfl) ?_
             simp [Config.height, h]
theorem f_grid_Inside (c : Config) (x y : Int) : Fn cx 155 [c.enc, ti x, ti y] (.bool (c.inside x y)) := by
  have h1 := @Config.width_le c
  have h2 := @Config.height_le c
  refine Wp.ev ?_
  refine gg [.a _ _, .i IntKind.i64 (Config.width c - 1) (Config.width c - 1), .a _ _] ⟨o_a (f_grid_Width c), oI, o_a (f_grid_within x 0 (Config.width c - 1)), trivial⟩ ?_
  refine br (b := within x 0 (Config.width c - 1)) (by kernel_rfl) (fun h1 => ?_) (fun h1 => ?_)
  · refine gg [.tt, .tt, .a _ _, .tt, .i IntKind.i64 (Config.height c - 1) (Config.height c - 1), .tt, .a _ _, .tt] ⟨o_a (f_grid_Height c), oI, o_a (f_grid_within y 0 (Config.height c - 1)), trivial⟩ ?_
    refine rt (a := Res.mk Ex.ret [vb (within y 0 (Config.height c - 1))] []) (by kernel_rfl) ?_
    simp_all [Config.inside]
  · refine gg [.ff, .ff, .ff, .ff, .ff] trivial ?_
    refine rt (a := Res.mk Ex.ret [vb false] []) (by kernel_rfl) ?_
    simp_all [Config.inside]
theorem f_grid_is (c : Config) (r : Int) : Fn cx 146 [c.enc, ti r] (.bool (c.is r)) := by
  have h1 := @Config.regions_le c
  refine Wp.ev ?_
  refine gg [.a _ _, .i IntKind.i64 (Config.regions c - 1) (Config.regions c - 1), .a _ _] ⟨o_a (f_grid_Regions c), oI, o_a (f_grid_within r 0 (Config.regions c - 1)), trivial⟩ ?_
  refine rt (a := Res.mk Ex.ret [vb (within r 0 (Config.regions c - 1))] []) (by kernel_rfl) ?_
  simp_all [Config.is]
theorem f_grid_Of (c : Config) (x y : Int) : Fn cx 98 [c.enc, ti x, ti y] (ti (c.of x y)) := by
  cases h : c.right with
  | true =>
    have h2 := Config.right_iff.1 h
    have h3 := @Config.width_le c
    have h4 := @Config.height_le c
    have hw : c.width = c.cols * 1024 := by simp [Config.width, h]
    have hh : c.height = c.rows * 1024 := by simp [Config.height, h]
    have h5 := @clamp_le x 0 (c.width - 1) (by omega)
    have h6 := @clamp_le y 0 (c.height - 1) (by omega)
    have h7 := tdiv_le (v := clamp x 0 (c.width - 1)) (k := 1024) (m := 4) (by omega) (by omega) (by omega)
    have h8 := tdiv_le (v := clamp y 0 (c.height - 1)) (k := 1024) (m := 4) (by omega) (by omega) (by omega)
    have h9 := mul4 (a := (clamp y 0 (c.height - 1)).tdiv 1024) (b := c.cols) (by omega) (by omega)
    refine Wp.ev ?_
    refine gg [.a _ _, .b (c.cols == 0) false, .a _ _, .i IntKind.i64 (Config.width c - 1) (Config.width c - 1), .a _ _, .a _ _, .i IntKind.i64 (Config.height c - 1) (Config.height c - 1), .a _ _, .w ((1024 : Int) ≠ (0 : Int)), .i IntKind.i64 (Int.tdiv (clamp y 0 (Config.height c - 1)) 1024) (Int.tdiv (clamp y 0 (Config.height c - 1)) 1024), .i IntKind.i64 (Int.tdiv (clamp y 0 (Config.height c - 1)) 1024 * c.cols) (Int.tdiv (clamp y 0 (Config.height c - 1)) 1024 * c.cols), .w ((1024 : Int) ≠ (0 : Int)), .i IntKind.i64 (Int.tdiv (clamp x 0 (Config.width c - 1)) 1024) (Int.tdiv (clamp x 0 (Config.width c - 1)) 1024), .i IntKind.i64 (Int.tdiv (clamp y 0 (Config.height c - 1)) 1024 * c.cols + Int.tdiv (clamp x 0 (Config.width c - 1)) 1024) (Int.tdiv (clamp y 0 (Config.height c - 1)) 1024 * c.cols + Int.tdiv (clamp x 0 (Config.width c - 1)) 1024)] ⟨o_a (f_grid_size_t c (by assumption)), fE, o_a (f_grid_Width c), oI, o_a (f_fixed_Clamp x 0 (Config.width c - 1)), o_a (f_grid_Height c), oI, o_a (f_fixed_Clamp y 0 (Config.height c - 1)), o_w (by intro h; cases h), oI, oI, o_w (by intro h; cases h), oI, oI, trivial⟩ ?_
    refine rt (a := Res.mk Ex.ret [vi (Int.tdiv (clamp y 0 (Config.height c - 1)) 1024 * c.cols + Int.tdiv (clamp x 0 (Config.width c - 1)) 1024)] []) (by kernel_rfl) ?_
    simp [Config.of, h]
  | false => refine Wp.ev ?_
             refine gg [.a _ _, .b (0 == 0) true] ⟨o_a (f_grid_size_f c (by assumption)), o_b (by kernel_rfl), trivial⟩ ?_
             refine rt (a := Res.mk Ex.ret [vi 0] []) (by kernel_rfl) ?_
             simp [Config.of, h]
end Go.Eva.S3

/- Eva, part 43: entities, in plain words. -/
namespace Go.Eva

/-- The place of the first one of which it holds; -1. -/
def pos {α : Type} (p : α → Bool) (l : List α) : Int := match l.findIdx? p with
  | some j => j
  | none => -1

/-- A list that is not beyond all measure. -/
def small {α : Type} (l : List α) : Prop := l.length ≤ 1000000

theorem drop_gt {α : Type} [Inhabited α] {l : List α} {i : Nat} (h : i < l.length) : l.drop i = gt l i :: l.drop (i + 1) := by
  rw [List.drop_eq_getElem_cons h]; simp [gt, h]
theorem gt_mem {α : Type} [Inhabited α] {l : List α} {i : Nat} (h : i < l.length) : gt l i ∈ l := by simp [gt, h]
theorem drop_end {α : Type} {l : List α} {i : Nat} (h : l.length ≤ i) : l.drop i = [] := List.drop_eq_nil_of_le h
theorem insert_any {α : Type} (m r : List α) (x : α) (i n : Nat) (hn : n = m.length) (h : i < n) :
    List.take (n + 1) (List.take i (List.take (i + 1) (m ++ r) ++ List.take (n - i) (List.take (n + 1 - i) (List.drop i (m ++ r))) ++ List.drop (i + (n - i) + 1) (m ++ r)) ++ List.take 1 [x] ++
      List.drop (i + 1) (List.take (i + 1) (m ++ r) ++ List.take (n - i) (List.take (n + 1 - i) (List.drop i (m ++ r))) ++ List.drop (i + (n - i) + 1) (m ++ r))) = List.take i m ++ x :: List.drop i m := by
  subst hn
  have e1 : List.take (i + 1) (m ++ r) = List.take (i+1) m := by rw [List.take_append_of_le_length (by omega)]
  have e2 : List.take (m.length - i) (List.take (m.length + 1 - i) (List.drop i (m ++ r))) = List.drop i m := by
    rw [List.take_take, Nat.min_eq_left (by omega), List.drop_append_of_le_length (by omega), List.take_append_of_le_length (by simp), List.take_of_length_le (by simp)]
  rw [e1, e2]
  generalize List.drop (i + (m.length - i) + 1) (m ++ r) = z
  have hl : (List.take (i+1) m).length = i + 1 := by simp; omega
  have e3 : List.take i (List.take (i + 1) m ++ List.drop i m ++ z) = List.take i m := by
    rw [List.append_assoc, List.take_append_of_le_length (by omega), List.take_take, Nat.min_eq_left (by omega)]
  have e4 : List.drop (i + 1) (List.take (i + 1) m ++ List.drop i m ++ z) = List.drop i m ++ z := by
    rw [List.append_assoc, List.drop_append, List.drop_of_length_le (by omega)]
    simp [hl]
  rw [e3, e4]
  have e5 : List.take i m ++ List.take 1 [x] ++ (List.drop i m ++ z) = (List.take i m ++ x :: List.drop i m) ++ z := by simp
  rw [e5, List.take_append_of_le_length (by simp; omega), List.take_of_length_le (by simp; omega)]

theorem insert_any' {α : Type} (m r : List α) (x : α) (i n : Nat) (hn : n = m.length) (h : i < n) :
    List.take (n + 1) (List.take i (List.take (i + 1) (m ++ r) ++ List.take (n + 1 - (i + 1)) (List.take (n + 1 - i) (List.drop i (m ++ r))) ++ List.drop (i + 1 + (n + 1 - (i + 1))) (m ++ r)) ++ List.take 1 [x] ++
      List.drop (i + 1) (List.take (i + 1) (m ++ r) ++ List.take (n + 1 - (i + 1)) (List.take (n + 1 - i) (List.drop i (m ++ r))) ++ List.drop (i + 1 + (n + 1 - (i + 1))) (m ++ r))) = List.take i m ++ x :: List.drop i m := by
  have e1 : n + 1 - (i + 1) = n - i := by omega
  have e2 : i + 1 + (n - i) = i + (n - i) + 1 := by omega
  rw [e1, e2]
  exact insert_any m r x i n hn h

theorem res_arr {v : List V} {s : Nat} {xs ys : List T} {x : Ex} {o : Ob} (h : xs = ys) : Res.mk x v [o, .arr s xs none false] = Res.mk x v [o, .arr s ys none false] := by rw [h]
/-- What does not hold of a test moves ahead. -/
def dfl {α : Type} (p : α → Bool) (A : List α) (i : Nat) : List α → Nat × List α
  | [] => (i, A)
  | v :: r => match p v with
    | true => dfl p A i r
    | false => dfl p (A.set i v) (i + 1) r

theorem dfl_len {α : Type} {p : α → Bool} : ∀ {r A : List α} {i : Nat}, (dfl p A i r).2.length = A.length ∧ i ≤ (dfl p A i r).1 ∧ (dfl p A i r).1 ≤ i + r.length
  | [], A, i => by simp [dfl]
  | v :: r, A, i => by
    simp only [dfl]
    cases p v with
    | true => have := @dfl_len α p r A i; simp only [List.length_cons]; omega
    | false => have := @dfl_len α p r (A.set i v) (i + 1); simp only [List.length_cons, List.length_set] at *; omega

theorem dfl_take {α : Type} {p : α → Bool} : ∀ {r A : List α} {i : Nat}, i + r.length ≤ A.length → (dfl p A i r).2.take (dfl p A i r).1 = A.take i ++ r.filter fun e => !p e
  | [], A, i, _ => by simp [dfl]
  | v :: r, A, i, h => by
    simp only [List.length_cons] at h
    simp only [dfl]
    cases hp : p v with
    | true =>
      simp only [hp, List.filter_cons, Bool.not_true, Bool.false_eq_true, if_false]
      exact dfl_take (by omega)
    | false =>
      simp only [hp, List.filter_cons, Bool.not_false, if_true]
      rw [dfl_take (by simp; omega), List.take_add_one]
      simp [List.take_set_of_le, show i < A.length by omega]

theorem find_none {α : Type} {p : α → Bool} {l : List α} (h : l.findIdx? p = none) : (l.filter fun e => !p e) = l := by
  rw [List.filter_eq_self]
  intro a ha
  have := List.findIdx?_eq_none_iff.1 h a ha
  simp [this]

theorem find_some {α : Type} [Inhabited α] {p : α → Bool} {l : List α} {k : Nat} (h : l.findIdx? p = some k) : k < l.length ∧ (l.filter fun e => !p e) = l.take k ++ (l.drop (k + 1)).filter fun e => !p e := by
  obtain ⟨hk, h1, h2⟩ := List.findIdx?_eq_some_iff_getElem.1 h
  refine ⟨hk, ?_⟩
  have e : l = l.take k ++ l[k] :: l.drop (k + 1) := by rw [← List.drop_eq_getElem_cons hk, List.take_append_drop]
  conv => lhs; rw [e]
  rw [List.filter_append, List.filter_cons, h1]
  have : (l.take k).filter (fun e => !p e) = l.take k := by
    rw [List.filter_eq_self]
    intro a ha
    obtain ⟨j, hj, rfl⟩ := List.getElem_of_mem ha
    simp only [List.length_take] at hj
    have := h2 j (by omega)
    simp only [List.getElem_take]
    simpa using this
  simp [this]

theorem gt_eq {α : Type} [Inhabited α] {l : List α} {i : Nat} (h : i < l.length) : gt l i = l[i] := by simp [gt, h]
end Go.Eva

/- Generic functions of slices. -/
namespace Go.Eva.S3
theorem f_slices_Clone_Entity (l : List Entity) (hl : small l) : Is cx (.call 108 [.t (.sl 9 (l.map Entity.enc))] []) ⟨.ret, [.all 0 none], [.arr 9 (l.map Entity.enc) none false]⟩ := by
  unfold small at hl
  refine Wp.ev ?_
  refine cp (lo := 0) (by kernel_rfl) (fun c1 hc1 => ?_)
  refine brp (p := c1 = 0 ∧ List.length (List.map Entity.enc l) = 0) (by kernel_rfl) (fun h2 => ?_) (fun h2 => ?_)
  · refine rt (a := Res.mk Ex.ret [V.all 0 none] [Ob.arr 9 [] none false]) (by kernel_rfl) ?_
    (first | rfl | (have : l = [] := List.length_eq_zero_iff.1 (by simp_all; done); subst this; rfl))
  · refine gg [.w ((0 : Nat) < (72 : Nat)), .s (T.sl 0 (List.map Entity.enc l)), .s (T.sl 0 (List.map Entity.enc l)), .w (room (List.length (List.map Entity.enc l)) (72 : Nat))] ⟨oW, o_w (by (simp [room, appendMax]; omega)), trivial⟩ ?_
    refine rt (a := Res.mk Ex.ret [V.all 0 none] [Ob.arr 9 (List.map Entity.enc l) none false]) (by kernel_rfl) ?_
    (first | rfl | (have : l = [] := List.length_eq_zero_iff.1 (by simp_all; done); subst this; rfl))
theorem f_slices_IndexFunc_loop_Entity (l : List Entity) (g : Nat) (cs : List T) (p : Entity → Bool) (hb : isFnB cx g = true) (hn : small l)
    (hg : ∀ e ∈ l, Fn cx g (e.enc :: cs) (.bool (p e))) : ∀ (d i : Nat), i + d = l.length →
    Is cx (.loop 147 [0, 1, 0, 1] 0 [.t (.sl 9 (l.map Entity.enc)), .t (.clo g cs), vi 0, vi l.length, vi i] [])
      (match (l.drop i).findIdx? p with
        | some j => ⟨.ret, [.t (.sl 9 (l.map Entity.enc)), .t (.clo g cs), vi (i + j : Nat), vi l.length, vi (i + j : Nat)], []⟩
        | none => ⟨.exit 0, [.t (.sl 9 (l.map Entity.enc)), .t (.clo g cs), vi 0, vi l.length, vi l.length], []⟩) := by
  unfold small at hn
  intro d
  induction d with
  | zero =>
    intro i hi
    refine Wp.ev ?_
    refine gg [.b (decide ((↑i : Int) < (↑(List.length l) : Int))) false] ⟨fP, trivial⟩ ?_
    refine rt (a := Res.mk (Ex.exit 0) [V.t (T.sl 9 (List.map Entity.enc l)), V.t (T.clo g cs), vi 0, vi (↑(List.length l) : Int), vi (↑i : Int)] []) (by kernel_rfl) ?_
    ((have : i = l.length := by omega); subst this; rw [drop_end (Nat.le_refl _)]; rfl)
  | succ d ih =>
    intro i hi
    have hlt : i < l.length := by omega
    have hy := hg _ (gt_mem hlt)
    have ih1 := ih (i + 1) (by omega)
    clear ih hg
    rw [drop_gt hlt, List.findIdx?_cons]
    cases hp : p (gt l i) with
    | true =>
      rw [hp] at hy
      refine Wp.ev ?_
      refine gg [.b (decide ((↑i : Int) < (↑(List.length l) : Int))) true, .w ((0 : Int) ≤ (↑i : Int)), .n (Int.toNat (↑i : Int)) i, .g (List.map Entity.enc l) i (Entity.enc (gt l i)), .w (isFnB cx g = true), .a _ _, .tt] ⟨tP, oW, o_n (by kernel_rfl), o_gt rfl (by assumption) (by intro h; cases h), oA, o_a hy, trivial⟩ ?_
      exact ge
    | false =>
      rw [hp] at hy
      simp only [Bool.false_eq_true, if_false]
      cases hq : (l.drop (i+1)).findIdx? p with
      | none =>
        rw [hq] at ih1
        refine Wp.ev ?_
        refine gg [.b (decide ((↑i : Int) < (↑(List.length l) : Int))) true, .w ((0 : Int) ≤ (↑i : Int)), .n (Int.toNat (↑i : Int)) i, .g (List.map Entity.enc l) i (Entity.enc (gt l i)), .w (isFnB cx g = true), .a _ _, .ff, .i IntKind.i64 ((↑i : Int) + 1) ((↑(i + 1) : Int)), .a _ _] ⟨tP, oW, o_n (by kernel_rfl), o_gt rfl (by assumption) (by intro h; cases h), oA, o_a hy, oI, o_a ih1, trivial⟩ ?_
        exact ge
      | some j =>
        rw [hq] at ih1
        refine Wp.ev ?_
        refine gg [.b (decide ((↑i : Int) < (↑(List.length l) : Int))) true, .w ((0 : Int) ≤ (↑i : Int)), .n (Int.toNat (↑i : Int)) i, .g (List.map Entity.enc l) i (Entity.enc (gt l i)), .w (isFnB cx g = true), .a _ _, .ff, .i IntKind.i64 ((↑i : Int) + 1) ((↑(i + 1) : Int)), .a _ _] ⟨tP, oW, o_n (by kernel_rfl), o_gt rfl (by assumption) (by intro h; cases h), oA, o_a hy, oI, o_a ih1, trivial⟩ ?_
        refine rt (a := Res.mk Ex.ret [V.t (T.sl 9 (List.map Entity.enc l)), V.t (T.clo g cs), vi (↑(i + 1 + j) : Int), vi (↑(List.length l) : Int), vi (↑(i + 1 + j) : Int)] []) (by kernel_rfl) ?_
        simp [Nat.add_assoc, Nat.add_comm 1 j]
theorem f_slices_IndexFunc_Entity (l : List Entity) (g : Nat) (cs : List T) (p : Entity → Bool) (hb : isFnB cx g = true) (hn : small l)
    (hg : ∀ e ∈ l, Fn cx g (e.enc :: cs) (.bool (p e))) : Fn cx 147 [.sl 9 (l.map Entity.enc), .clo g cs] (ti (pos p l)) := by
  have h := f_slices_IndexFunc_loop_Entity l g cs p hb hn hg l.length 0 (by omega)
  clear hg
  rw [List.drop_zero] at h
  unfold pos
  cases hq : l.findIdx? p with
  | none =>
    rw [hq] at h
    refine Wp.ev ?_
    refine gg [.n (List.length (List.map Entity.enc l)) (List.length l), .a _ _] ⟨o_n (by simp), o_a h, trivial⟩ ?_
    exact ge
  | some j =>
    rw [hq] at h
    refine Wp.ev ?_
    refine gg [.n (List.length (List.map Entity.enc l)) (List.length l), .a _ _] ⟨o_n (by simp), o_a h, trivial⟩ ?_
    refine rt (a := Res.mk Ex.ret [vi (↑(0 + j) : Int)] []) (by kernel_rfl) ?_
    simp
theorem f_slices_Insert_Entity (l : List Entity) (e : Entity) (i : Nat) (hl : small l) (hi : i ≤ l.length) : Is cx (.call 149 [.all 0 none, vi i, .fit 9 ([e].map Entity.enc)] [.arr 9 (l.map Entity.enc) none false]) ⟨.ret, [.all 1 none], [.dead, .arr 9 ((l.take i ++ e :: l.drop i).map Entity.enc) none false]⟩ := by
  unfold small at hl
  refine Wp.ev ?_
  refine gg [.w ((0 : Int) ≤ (↑i : Int)), .n (Int.toNat (↑i : Int)) i, .w (i ≤ List.length (List.map Entity.enc l) ∧ List.length (List.map Entity.enc l) ≤ List.length (List.map Entity.enc l)), .n (0 + i) i, .n (List.length (List.map Entity.enc l) - i) (List.length l - i), .n (List.length (List.map Entity.enc [e])) 1, .b (1 == 0) false, .n (List.length (List.map Entity.enc l)) (List.length l)] ⟨oW, o_n (by kernel_rfl), o_w ⟨(by (simp [room, appendMax]; omega)), (by omega)⟩, oN, o_n (by simp), o_n (by kernel_rfl), o_b (by kernel_rfl), o_n (by simp), trivial⟩ ?_
  refine bre (x := (↑i : Int)) (y := (↑(List.length l) : Int)) (by kernel_rfl) (fun h1 => ?_) (fun h1 => ?_)
  · refine gg [.w ((0 : Nat) < (72 : Nat)), .t (T.sl 0 [Entity.enc e]) (T.sl 0 (List.map Entity.enc [e])), .t (T.sl 0 (List.map Entity.enc l ++ List.map Entity.enc [e])) (T.sl 0 (List.map Entity.enc (l ++ [e]))), .w (room (List.length (List.map Entity.enc (l ++ [e]))) (72 : Nat))] ⟨oW, o_l (nm_cons rfl nm_nil), o_l (nm_app rfl rfl), o_w (by (simp [room, appendMax]; omega)), trivial⟩ ?_
    refine rt (a := Res.mk Ex.ret [V.all 1 none] [Ob.dead, Ob.arr 9 (List.map Entity.enc (l ++ [e])) none false]) (by kernel_rfl) ?_
    (refine res_arr ?_; first | (simp only [List.map_cons, List.map_nil]; rw [insert_any' _ _ _ _ _ (by simp) (by omega)]; simp; done) | (have hq : i = l.length := by omega; subst hq; simp; done) | (apply List.ext_getElem?; grind))
  · refine gg [.i IntKind.i64 ((↑(List.length l) : Int) + 1) ((↑(List.length l + 1) : Int))] ⟨o_i (w64 (by (simp [room, appendMax]; omega))), trivial⟩ ?_
    refine cp (lo := List.length (List.map Entity.enc l)) (by kernel_rfl) (fun c2 hc2 => ?_)
    refine gg [.n (c2 - 0) c2] ⟨o_n (by kernel_rfl), trivial⟩ ?_
    refine brp (p := (↑(List.length l + 1) : Int) > (↑c2 : Int)) (by kernel_rfl) (fun h3 => ?_) (fun h3 => ?_)
    · refine gg [.w ((0 : Int) ≤ (↑i : Int)), .n (Int.toNat (↑i : Int)) i, .b (decide (c2 - List.length (List.map Entity.enc l) = 0)) true, .w ((0 : Nat) ≤ i ∧ (0 : Nat) + i ≤ List.length (List.map Entity.enc l)), .l 0, .n (i - 0) i, .i IntKind.i64 ((↑(List.length l) : Int) + 1) ((↑(List.length l + 1) : Int)), .i IntKind.i64 ((↑(List.length l + 1) : Int) - (↑i : Int)) ((↑(List.length l + 1) : Int) - (↑i : Int)), .w ((0 : Int) ≤ (↑(List.length l + (1 : Nat)) : Int) - (↑i : Int) ∧ room (Int.toNat ((↑(List.length l + (1 : Nat)) : Int) - (↑i : Int))) (72 : Nat)), .n (Int.toNat ((↑(List.length l + 1) : Int) - (↑i : Int))) (List.length l + 1 - i), .b (decide (c2 - List.length (List.map Entity.enc l) = 0)) true, .b (decide (0 + i + List.length (List.replicate (List.length l + 1 - i) (T.agg [ti 0, ti 0, ti 0, ti 0, ti 0, ti 0, ti 0, ti 0, ti 0])) ≤ List.length (List.map Entity.enc l))) false, .t (T.sl 0 (List.take i (List.drop 0 (List.map Entity.enc l)) ++ List.replicate (List.length l + 1 - i) (T.agg [ti 0, ti 0, ti 0, ti 0, ti 0, ti 0, ti 0, ti 0, ti 0]))) (T.sl 0 (List.map Entity.enc (List.take i l ++ List.replicate (List.length l + 1 - i) (Entity.mk 0 0 0 0 0 0 0 0 0)))), .w (room (List.length (List.map Entity.enc (List.take i l ++ List.replicate (List.length l + (1 : Nat) - i) (Entity.mk (0 : Int) (0 : Int) (0 : Int) (0 : Int) (0 : Int) (0 : Int) (0 : Int) (0 : Int) (0 : Int))))) (72 : Nat)), .w ((0 : Int) ≤ (↑i : Int)), .n (Int.toNat (↑i : Int)) i] ⟨oW, o_n (by kernel_rfl), t_brp (by (simp; omega)), o_w ⟨(by omega), (by (simp [room, appendMax]; omega))⟩, o_n (by kernel_rfl), o_i (w64 (by (simp [room, appendMax]; omega))), o_i (w64 (by (simp [room, appendMax]; omega))), o_w ⟨(by (simp [room, appendMax]; omega)), (by (simp [room, appendMax]; omega))⟩, oN, t_brp (by (simp; omega)), f_brp (by (simp; omega)), o_l (nm_eq (nm_app (nm_take (nm_drop rfl)) (nm_rep (e := Entity.mk 0 0 0 0 0 0 0 0 0) rfl)) (by kernel_rfl)), o_w (by (simp [room, appendMax]; omega)), oW, o_n (by kernel_rfl), trivial⟩ ?_
      refine gg [.w (i ≤ List.length (List.map Entity.enc (List.take i l ++ List.replicate (List.length l + (1 : Nat) - i) (Entity.mk (0 : Int) (0 : Int) (0 : Int) (0 : Int) (0 : Int) (0 : Int) (0 : Int) (0 : Int) (0 : Int)))) ∧ List.length (List.map Entity.enc (List.take i l ++ List.replicate (List.length l + (1 : Nat) - i) (Entity.mk (0 : Int) (0 : Int) (0 : Int) (0 : Int) (0 : Int) (0 : Int) (0 : Int) (0 : Int) (0 : Int)))) ≤ List.length (List.map Entity.enc (List.take i l ++ List.replicate (List.length l + (1 : Nat) - i) (Entity.mk (0 : Int) (0 : Int) (0 : Int) (0 : Int) (0 : Int) (0 : Int) (0 : Int) (0 : Int) (0 : Int))))), .n (0 + i) i, .n (List.length (List.map Entity.enc (List.take i l ++ List.replicate (List.length l + 1 - i) (Entity.mk 0 0 0 0 0 0 0 0 0))) - i) (List.length l + 1 - i), .n (min (List.length (List.map Entity.enc [e])) (List.length l + 1 - i)) 1, .t (T.sl 0 (List.take i (List.map Entity.enc (List.take i l ++ List.replicate (List.length l + 1 - i) (Entity.mk 0 0 0 0 0 0 0 0 0))) ++ List.take 1 (List.map Entity.enc [e]) ++ List.drop (i + 1) (List.map Entity.enc (List.take i l ++ List.replicate (List.length l + 1 - i) (Entity.mk 0 0 0 0 0 0 0 0 0))))) (T.sl 0 (List.map Entity.enc (List.take i (List.take i l ++ List.replicate (List.length l + 1 - i) (Entity.mk 0 0 0 0 0 0 0 0 0)) ++ [e] ++ List.drop (i + 1) (List.take i l ++ List.replicate (List.length l + 1 - i) (Entity.mk 0 0 0 0 0 0 0 0 0))))), .i IntKind.i64 ((↑i : Int) + 1) ((↑(i + 1) : Int)), .w ((0 : Int) ≤ (↑(i + (1 : Nat)) : Int)), .n (Int.toNat (↑(i + 1) : Int)) (i + 1), .w (i + (1 : Nat) ≤ List.length (List.map Entity.enc (List.take i (List.take i l ++ List.replicate (List.length l + (1 : Nat) - i) (Entity.mk (0 : Int) (0 : Int) (0 : Int) (0 : Int) (0 : Int) (0 : Int) (0 : Int) (0 : Int) (0 : Int))) ++ [e] ++ List.drop (i + (1 : Nat)) (List.take i l ++ List.replicate (List.length l + (1 : Nat) - i) (Entity.mk (0 : Int) (0 : Int) (0 : Int) (0 : Int) (0 : Int) (0 : Int) (0 : Int) (0 : Int) (0 : Int))))) ∧ List.length (List.map Entity.enc (List.take i (List.take i l ++ List.replicate (List.length l + (1 : Nat) - i) (Entity.mk (0 : Int) (0 : Int) (0 : Int) (0 : Int) (0 : Int) (0 : Int) (0 : Int) (0 : Int) (0 : Int))) ++ [e] ++ List.drop (i + (1 : Nat)) (List.take i l ++ List.replicate (List.length l + (1 : Nat) - i) (Entity.mk (0 : Int) (0 : Int) (0 : Int) (0 : Int) (0 : Int) (0 : Int) (0 : Int) (0 : Int) (0 : Int))))) ≤ List.length (List.map Entity.enc (List.take i (List.take i l ++ List.replicate (List.length l + (1 : Nat) - i) (Entity.mk (0 : Int) (0 : Int) (0 : Int) (0 : Int) (0 : Int) (0 : Int) (0 : Int) (0 : Int) (0 : Int))) ++ [e] ++ List.drop (i + (1 : Nat)) (List.take i l ++ List.replicate (List.length l + (1 : Nat) - i) (Entity.mk (0 : Int) (0 : Int) (0 : Int) (0 : Int) (0 : Int) (0 : Int) (0 : Int) (0 : Int) (0 : Int)))))), .n (0 + (i + 1)) (i + 1), .n (List.length (List.map Entity.enc (List.take i (List.take i l ++ List.replicate (List.length l + 1 - i) (Entity.mk 0 0 0 0 0 0 0 0 0)) ++ [e] ++ List.drop (i + 1) (List.take i l ++ List.replicate (List.length l + 1 - i) (Entity.mk 0 0 0 0 0 0 0 0 0)))) - (i + 1)) (i + (List.length l + 1 - i) - (i + 1))] ⟨o_w ⟨(by (simp [room, appendMax]; omega)), (by omega)⟩, oN, o_n (by (simp; omega)), o_n (by (simp; omega)), o_l (nm_eq (nm_app (nm_app (nm_take rfl) (nm_take rfl)) (nm_drop rfl)) (by kernel_rfl)), o_i (w64 (by (simp [room, appendMax]; omega))), o_w (by (simp [room, appendMax]; omega)), o_n (by kernel_rfl), o_w ⟨(by (simp [room, appendMax]; omega)), (by omega)⟩, oN, o_n (by (simp; omega)), trivial⟩ ?_
      refine gg [.w ((0 : Int) ≤ (↑i : Int)), .n (Int.toNat (↑i : Int)) i, .b (decide (c2 - List.length (List.map Entity.enc l) = 0)) true, .w (i ≤ List.length (List.map Entity.enc l) ∧ (0 : Nat) + List.length (List.map Entity.enc l) ≤ List.length (List.map Entity.enc l)), .n (0 + i) i, .n (List.length (List.map Entity.enc l) - i) (List.length l - i), .n (min (List.length (List.take (List.length l - i) (List.drop i (List.map Entity.enc l)))) (i + (List.length l + 1 - i) - (i + 1))) (List.length l - i), .t (T.sl 0 (List.take (i + 1) (List.map Entity.enc (List.take i (List.take i l ++ List.replicate (List.length l + 1 - i) (Entity.mk 0 0 0 0 0 0 0 0 0)) ++ [e] ++ List.drop (i + 1) (List.take i l ++ List.replicate (List.length l + 1 - i) (Entity.mk 0 0 0 0 0 0 0 0 0)))) ++ List.take (List.length l - i) (List.take (List.length l - i) (List.drop i (List.map Entity.enc l))) ++ List.drop (i + 1 + (List.length l - i)) (List.map Entity.enc (List.take i (List.take i l ++ List.replicate (List.length l + 1 - i) (Entity.mk 0 0 0 0 0 0 0 0 0)) ++ [e] ++ List.drop (i + 1) (List.take i l ++ List.replicate (List.length l + 1 - i) (Entity.mk 0 0 0 0 0 0 0 0 0)))))) (T.sl 0 (List.map Entity.enc (List.take (i + 1) (List.take i (List.take i l ++ List.replicate (List.length l + 1 - i) (Entity.mk 0 0 0 0 0 0 0 0 0)) ++ [e] ++ List.drop (i + 1) (List.take i l ++ List.replicate (List.length l + 1 - i) (Entity.mk 0 0 0 0 0 0 0 0 0))) ++ List.take (List.length l - i) (List.take (List.length l - i) (List.drop i l)) ++ List.drop (i + 1 + (List.length l - i)) (List.take i (List.take i l ++ List.replicate (List.length l + 1 - i) (Entity.mk 0 0 0 0 0 0 0 0 0)) ++ [e] ++ List.drop (i + 1) (List.take i l ++ List.replicate (List.length l + 1 - i) (Entity.mk 0 0 0 0 0 0 0 0 0))))))] ⟨oW, o_n (by kernel_rfl), t_brp (by (simp; omega)), o_w ⟨(by (simp [room, appendMax]; omega)), (by omega)⟩, oN, o_n (by simp), o_n (by (simp; omega)), o_l (nm_app (nm_app (nm_take rfl) (nm_take (nm_take (nm_drop rfl)))) (nm_drop rfl)), trivial⟩ ?_
      refine rt (a := Res.mk Ex.ret [V.all 1 none] [Ob.dead, Ob.arr 9 (List.map Entity.enc (List.take (i + 1) (List.take i (List.take i l ++ List.replicate (List.length l + 1 - i) (Entity.mk 0 0 0 0 0 0 0 0 0)) ++ [e] ++ List.drop (i + 1) (List.take i l ++ List.replicate (List.length l + 1 - i) (Entity.mk 0 0 0 0 0 0 0 0 0))) ++ List.take (List.length l - i) (List.take (List.length l - i) (List.drop i l)) ++ List.drop (i + 1 + (List.length l - i)) (List.take i (List.take i l ++ List.replicate (List.length l + 1 - i) (Entity.mk 0 0 0 0 0 0 0 0 0)) ++ [e] ++ List.drop (i + 1) (List.take i l ++ List.replicate (List.length l + 1 - i) (Entity.mk 0 0 0 0 0 0 0 0 0))))) none false]) (by kernel_rfl) ?_
      (refine res_arr ?_; first | (simp only [List.map_cons, List.map_nil]; rw [insert_any' _ _ _ _ _ (by simp) (by omega)]; simp; done) | (have hq : i = l.length := by omega; subst hq; simp; done) | (apply List.ext_getElem?; grind))
    · refine gg [.i IntKind.i64 ((↑(List.length l) : Int) + 1) ((↑(List.length l + 1) : Int)), .w ((0 : Int) ≤ (↑(List.length l + (1 : Nat)) : Int)), .n (Int.toNat (↑(List.length l + 1) : Int)) (List.length l + 1), .b (decide (c2 - List.length (List.map Entity.enc l) = 0)) false, .w ((0 : Nat) ≤ List.length l + (1 : Nat) ∧ (0 : Nat) + (List.length l + (1 : Nat)) ≤ List.length (List.map Entity.enc l) + (c2 - List.length (List.map Entity.enc l))), .b (decide (0 + (List.length l + 1) ≤ List.length (List.map Entity.enc l))) false, .l 0, .n (List.length l + 1 - 0) (List.length l + 1), .i IntKind.i64 ((↑i : Int) + 1) ((↑(i + 1) : Int)), .w ((0 : Int) ≤ (↑(i + (1 : Nat)) : Int)), .n (Int.toNat (↑(i + 1) : Int)) (i + 1), .b (decide (0 = 0)) true, .w (i + (1 : Nat) ≤ List.length l + (1 : Nat) ∧ (0 : Nat) + (List.length l + (1 : Nat)) ≤ List.length (List.map Entity.enc l ++ List.replicate (c2 - List.length (List.map Entity.enc l)) T.any)), .n (0 + (i + 1)) (i + 1), .l (List.length l + 1 - (i + 1)), .b (!false) true] ⟨o_i (w64 (by (simp [room, appendMax]; omega))), o_w (by (simp [room, appendMax]; omega)), o_n (by kernel_rfl), f_brp (by (simp; omega)), o_w ⟨(by omega), (by (simp [room, appendMax]; omega))⟩, f_brp (by simp), o_n (by kernel_rfl), o_i (w64 (by (simp [room, appendMax]; omega))), o_w (by (simp [room, appendMax]; omega)), o_n (by kernel_rfl), o_b (by kernel_rfl), o_w ⟨(by (simp [room, appendMax]; omega)), (by (simp [room, appendMax]; omega))⟩, oN, o_b (by kernel_rfl), trivial⟩ ?_
      refine gg [.i IntKind.i64 ((↑i : Int) + 1) ((↑(i + 1) : Int)), .w ((0 : Int) ≤ (↑(i + (1 : Nat)) : Int)), .n (Int.toNat (↑(i + 1) : Int)) (i + 1), .b (decide (0 = 0)) true, .w (i + (1 : Nat) ≤ List.length l + (1 : Nat) ∧ (0 : Nat) + (List.length l + (1 : Nat)) ≤ List.length (List.map Entity.enc l ++ List.replicate (c2 - List.length (List.map Entity.enc l)) T.any)), .n (0 + (i + 1)) (i + 1), .l (List.length l + 1 - (i + 1)), .w ((0 : Int) ≤ (↑i : Int)), .n (Int.toNat (↑i : Int)) i, .b (decide (0 = 0)) true, .w (i ≤ List.length l + (1 : Nat) ∧ (0 : Nat) + (List.length l + (1 : Nat)) ≤ List.length (List.map Entity.enc l ++ List.replicate (c2 - List.length (List.map Entity.enc l)) T.any)), .n (0 + i) i, .l (List.length l + 1 - i), .n (min (List.length (List.take (List.length l + 1 - i) (List.drop i (List.map Entity.enc l ++ List.replicate (c2 - List.length (List.map Entity.enc l)) T.any)))) (List.length l + 1 - (i + 1))) (List.length l + 1 - (i + 1)), .s (T.sl 0 (List.take (i + 1) (List.map Entity.enc l ++ List.replicate (c2 - List.length (List.map Entity.enc l)) T.any) ++ List.take (List.length l + 1 - (i + 1)) (List.take (List.length l + 1 - i) (List.drop i (List.map Entity.enc l ++ List.replicate (c2 - List.length (List.map Entity.enc l)) T.any))) ++ List.drop (i + 1 + (List.length l + 1 - (i + 1))) (List.map Entity.enc l ++ List.replicate (c2 - List.length (List.map Entity.enc l)) T.any))), .w ((0 : Int) ≤ (↑i : Int))] ⟨o_i (w64 (by (simp [room, appendMax]; omega))), o_w (by (simp [room, appendMax]; omega)), o_n (by kernel_rfl), o_b (by kernel_rfl), o_w ⟨(by (simp [room, appendMax]; omega)), (by (simp [room, appendMax]; omega))⟩, oN, oW, o_n (by kernel_rfl), o_b (by kernel_rfl), o_w ⟨(by omega), (by (simp [room, appendMax]; omega))⟩, oN, o_n (by (simp; omega)), oW, trivial⟩ ?_
      refine gg [.n (Int.toNat (↑i : Int)) i, .b (decide (0 = 0)) true, .w (i ≤ List.length l + (1 : Nat) ∧ (0 : Nat) + (List.length l + (1 : Nat)) ≤ List.length (List.take (i + (1 : Nat)) (List.map Entity.enc l ++ List.replicate (c2 - List.length (List.map Entity.enc l)) T.any) ++ List.take (List.length l + (1 : Nat) - (i + (1 : Nat))) (List.take (List.length l + (1 : Nat) - i) (List.drop i (List.map Entity.enc l ++ List.replicate (c2 - List.length (List.map Entity.enc l)) T.any))) ++ List.drop (i + (1 : Nat) + (List.length l + (1 : Nat) - (i + (1 : Nat)))) (List.map Entity.enc l ++ List.replicate (c2 - List.length (List.map Entity.enc l)) T.any))), .n (0 + i) i, .l (List.length l + 1 - i), .n (min (List.length (List.map Entity.enc [e])) (List.length l + 1 - i)) 1, .s (T.sl 0 (List.take i (List.take (i + 1) (List.map Entity.enc l ++ List.replicate (c2 - List.length (List.map Entity.enc l)) T.any) ++ List.take (List.length l + 1 - (i + 1)) (List.take (List.length l + 1 - i) (List.drop i (List.map Entity.enc l ++ List.replicate (c2 - List.length (List.map Entity.enc l)) T.any))) ++ List.drop (i + 1 + (List.length l + 1 - (i + 1))) (List.map Entity.enc l ++ List.replicate (c2 - List.length (List.map Entity.enc l)) T.any)) ++ List.take 1 (List.map Entity.enc [e]) ++ List.drop (i + 1) (List.take (i + 1) (List.map Entity.enc l ++ List.replicate (c2 - List.length (List.map Entity.enc l)) T.any) ++ List.take (List.length l + 1 - (i + 1)) (List.take (List.length l + 1 - i) (List.drop i (List.map Entity.enc l ++ List.replicate (c2 - List.length (List.map Entity.enc l)) T.any))) ++ List.drop (i + 1 + (List.length l + 1 - (i + 1))) (List.map Entity.enc l ++ List.replicate (c2 - List.length (List.map Entity.enc l)) T.any)))), .s (T.sl 0 (List.take (List.length l + 1) (List.take i (List.take (i + 1) (List.map Entity.enc l ++ List.replicate (c2 - List.length (List.map Entity.enc l)) T.any) ++ List.take (List.length l + 1 - (i + 1)) (List.take (List.length l + 1 - i) (List.drop i (List.map Entity.enc l ++ List.replicate (c2 - List.length (List.map Entity.enc l)) T.any))) ++ List.drop (i + 1 + (List.length l + 1 - (i + 1))) (List.map Entity.enc l ++ List.replicate (c2 - List.length (List.map Entity.enc l)) T.any)) ++ List.take 1 (List.map Entity.enc [e]) ++ List.drop (i + 1) (List.take (i + 1) (List.map Entity.enc l ++ List.replicate (c2 - List.length (List.map Entity.enc l)) T.any) ++ List.take (List.length l + 1 - (i + 1)) (List.take (List.length l + 1 - i) (List.drop i (List.map Entity.enc l ++ List.replicate (c2 - List.length (List.map Entity.enc l)) T.any))) ++ List.drop (i + 1 + (List.length l + 1 - (i + 1))) (List.map Entity.enc l ++ List.replicate (c2 - List.length (List.map Entity.enc l)) T.any)))))] ⟨o_n (by kernel_rfl), o_b (by kernel_rfl), o_w ⟨(by omega), (by (simp [room, appendMax]; omega))⟩, oN, o_n (by (simp; omega)), trivial⟩ ?_
      refine rt (a := Res.mk Ex.ret [V.all 1 none] [Ob.dead, Ob.arr 9 (List.take (List.length l + 1) (List.take i (List.take (i + 1) (List.map Entity.enc l ++ List.replicate (c2 - List.length (List.map Entity.enc l)) T.any) ++ List.take (List.length l + 1 - (i + 1)) (List.take (List.length l + 1 - i) (List.drop i (List.map Entity.enc l ++ List.replicate (c2 - List.length (List.map Entity.enc l)) T.any))) ++ List.drop (i + 1 + (List.length l + 1 - (i + 1))) (List.map Entity.enc l ++ List.replicate (c2 - List.length (List.map Entity.enc l)) T.any)) ++ List.take 1 (List.map Entity.enc [e]) ++ List.drop (i + 1) (List.take (i + 1) (List.map Entity.enc l ++ List.replicate (c2 - List.length (List.map Entity.enc l)) T.any) ++ List.take (List.length l + 1 - (i + 1)) (List.take (List.length l + 1 - i) (List.drop i (List.map Entity.enc l ++ List.replicate (c2 - List.length (List.map Entity.enc l)) T.any))) ++ List.drop (i + 1 + (List.length l + 1 - (i + 1))) (List.map Entity.enc l ++ List.replicate (c2 - List.length (List.map Entity.enc l)) T.any)))) none false]) (by kernel_rfl) ?_
      (refine res_arr ?_; first | (simp only [List.map_cons, List.map_nil]; rw [insert_any' _ _ _ _ _ (by simp) (by omega)]; simp; done) | (have hq : i = l.length := by omega; subst hq; simp; done) | (apply List.ext_getElem?; grind))
theorem f_slices_Clone_Cross (l : List Cross) (hl : small l) : Is cx (.call 151 [.t (.sl 15 (l.map Cross.enc))] []) ⟨.ret, [.all 0 none], [.arr 15 (l.map Cross.enc) none false]⟩ := by
  unfold small at hl
  refine Wp.ev ?_
  refine cp (lo := 0) (by kernel_rfl) (fun c1 hc1 => ?_)
  refine brp (p := c1 = 0 ∧ List.length (List.map Cross.enc l) = 0) (by kernel_rfl) (fun h2 => ?_) (fun h2 => ?_)
  · refine rt (a := Res.mk Ex.ret [V.all 0 none] [Ob.arr 15 [] none false]) (by kernel_rfl) ?_
    (first | rfl | (have : l = [] := List.length_eq_zero_iff.1 (by simp_all; done); subst this; rfl))
  · refine gg [.w ((0 : Nat) < (120 : Nat)), .s (T.sl 0 (List.map Cross.enc l)), .s (T.sl 0 (List.map Cross.enc l)), .w (room (List.length (List.map Cross.enc l)) (120 : Nat))] ⟨oW, o_w (by (simp [room, appendMax]; omega)), trivial⟩ ?_
    refine rt (a := Res.mk Ex.ret [V.all 0 none] [Ob.arr 15 (List.map Cross.enc l) none false]) (by kernel_rfl) ?_
    (first | rfl | (have : l = [] := List.length_eq_zero_iff.1 (by simp_all; done); subst this; rfl))
theorem f_slices_IndexFunc_loop_Cross (l : List Cross) (g : Nat) (cs : List T) (p : Cross → Bool) (hb : isFnB cx g = true) (hn : small l)
    (hg : ∀ e ∈ l, Fn cx g (e.enc :: cs) (.bool (p e))) : ∀ (d i : Nat), i + d = l.length →
    Is cx (.loop 162 [0, 1, 0, 1] 0 [.t (.sl 15 (l.map Cross.enc)), .t (.clo g cs), vi 0, vi l.length, vi i] [])
      (match (l.drop i).findIdx? p with
        | some j => ⟨.ret, [.t (.sl 15 (l.map Cross.enc)), .t (.clo g cs), vi (i + j : Nat), vi l.length, vi (i + j : Nat)], []⟩
        | none => ⟨.exit 0, [.t (.sl 15 (l.map Cross.enc)), .t (.clo g cs), vi 0, vi l.length, vi l.length], []⟩) := by
  unfold small at hn
  intro d
  induction d with
  | zero =>
    intro i hi
    refine Wp.ev ?_
    refine gg [.b (decide ((↑i : Int) < (↑(List.length l) : Int))) false] ⟨fP, trivial⟩ ?_
    refine rt (a := Res.mk (Ex.exit 0) [V.t (T.sl 15 (List.map Cross.enc l)), V.t (T.clo g cs), vi 0, vi (↑(List.length l) : Int), vi (↑i : Int)] []) (by kernel_rfl) ?_
    ((have : i = l.length := by omega); subst this; rw [drop_end (Nat.le_refl _)]; rfl)
  | succ d ih =>
    intro i hi
    have hlt : i < l.length := by omega
    have hy := hg _ (gt_mem hlt)
    have ih1 := ih (i + 1) (by omega)
    clear ih hg
    rw [drop_gt hlt, List.findIdx?_cons]
    cases hp : p (gt l i) with
    | true =>
      rw [hp] at hy
      refine Wp.ev ?_
      refine gg [.b (decide ((↑i : Int) < (↑(List.length l) : Int))) true, .w ((0 : Int) ≤ (↑i : Int)), .n (Int.toNat (↑i : Int)) i, .g (List.map Cross.enc l) i (Cross.enc (gt l i)), .w (isFnB cx g = true), .a _ _, .tt] ⟨tP, oW, o_n (by kernel_rfl), o_gt rfl (by assumption) (by intro h; cases h), oA, o_a hy, trivial⟩ ?_
      exact ge
    | false =>
      rw [hp] at hy
      simp only [Bool.false_eq_true, if_false]
      cases hq : (l.drop (i+1)).findIdx? p with
      | none =>
        rw [hq] at ih1
        refine Wp.ev ?_
        refine gg [.b (decide ((↑i : Int) < (↑(List.length l) : Int))) true, .w ((0 : Int) ≤ (↑i : Int)), .n (Int.toNat (↑i : Int)) i, .g (List.map Cross.enc l) i (Cross.enc (gt l i)), .w (isFnB cx g = true), .a _ _, .ff, .i IntKind.i64 ((↑i : Int) + 1) ((↑(i + 1) : Int)), .a _ _] ⟨tP, oW, o_n (by kernel_rfl), o_gt rfl (by assumption) (by intro h; cases h), oA, o_a hy, oI, o_a ih1, trivial⟩ ?_
        exact ge
      | some j =>
        rw [hq] at ih1
        refine Wp.ev ?_
        refine gg [.b (decide ((↑i : Int) < (↑(List.length l) : Int))) true, .w ((0 : Int) ≤ (↑i : Int)), .n (Int.toNat (↑i : Int)) i, .g (List.map Cross.enc l) i (Cross.enc (gt l i)), .w (isFnB cx g = true), .a _ _, .ff, .i IntKind.i64 ((↑i : Int) + 1) ((↑(i + 1) : Int)), .a _ _] ⟨tP, oW, o_n (by kernel_rfl), o_gt rfl (by assumption) (by intro h; cases h), oA, o_a hy, oI, o_a ih1, trivial⟩ ?_
        refine rt (a := Res.mk Ex.ret [V.t (T.sl 15 (List.map Cross.enc l)), V.t (T.clo g cs), vi (↑(i + 1 + j) : Int), vi (↑(List.length l) : Int), vi (↑(i + 1 + j) : Int)] []) (by kernel_rfl) ?_
        simp [Nat.add_assoc, Nat.add_comm 1 j]
theorem f_slices_IndexFunc_Cross (l : List Cross) (g : Nat) (cs : List T) (p : Cross → Bool) (hb : isFnB cx g = true) (hn : small l)
    (hg : ∀ e ∈ l, Fn cx g (e.enc :: cs) (.bool (p e))) : Fn cx 162 [.sl 15 (l.map Cross.enc), .clo g cs] (ti (pos p l)) := by
  have h := f_slices_IndexFunc_loop_Cross l g cs p hb hn hg l.length 0 (by omega)
  clear hg
  rw [List.drop_zero] at h
  unfold pos
  cases hq : l.findIdx? p with
  | none =>
    rw [hq] at h
    refine Wp.ev ?_
    refine gg [.n (List.length (List.map Cross.enc l)) (List.length l), .a _ _] ⟨o_n (by simp), o_a h, trivial⟩ ?_
    exact ge
  | some j =>
    rw [hq] at h
    refine Wp.ev ?_
    refine gg [.n (List.length (List.map Cross.enc l)) (List.length l), .a _ _] ⟨o_n (by simp), o_a h, trivial⟩ ?_
    refine rt (a := Res.mk Ex.ret [vi (↑(0 + j) : Int)] []) (by kernel_rfl) ?_
    simp
theorem f_slices_IndexFunc_loop_Input (l : List Input) (g : Nat) (cs : List T) (p : Input → Bool) (hb : isFnB cx g = true) (hn : small l)
    (hg : ∀ e ∈ l, Fn cx g (e.enc :: cs) (.bool (p e))) : ∀ (d i : Nat), i + d = l.length →
    Is cx (.loop 161 [0, 1, 0, 1] 0 [.t (.sl 3 (l.map Input.enc)), .t (.clo g cs), vi 0, vi l.length, vi i] [])
      (match (l.drop i).findIdx? p with
        | some j => ⟨.ret, [.t (.sl 3 (l.map Input.enc)), .t (.clo g cs), vi (i + j : Nat), vi l.length, vi (i + j : Nat)], []⟩
        | none => ⟨.exit 0, [.t (.sl 3 (l.map Input.enc)), .t (.clo g cs), vi 0, vi l.length, vi l.length], []⟩) := by
  unfold small at hn
  intro d
  induction d with
  | zero =>
    intro i hi
    refine Wp.ev ?_
    refine gg [.b (decide ((↑i : Int) < (↑(List.length l) : Int))) false] ⟨fP, trivial⟩ ?_
    refine rt (a := Res.mk (Ex.exit 0) [V.t (T.sl 3 (List.map Input.enc l)), V.t (T.clo g cs), vi 0, vi (↑(List.length l) : Int), vi (↑i : Int)] []) (by kernel_rfl) ?_
    ((have : i = l.length := by omega); subst this; rw [drop_end (Nat.le_refl _)]; rfl)
  | succ d ih =>
    intro i hi
    have hlt : i < l.length := by omega
    have hy := hg _ (gt_mem hlt)
    have ih1 := ih (i + 1) (by omega)
    clear ih hg
    rw [drop_gt hlt, List.findIdx?_cons]
    cases hp : p (gt l i) with
    | true =>
      rw [hp] at hy
      refine Wp.ev ?_
      refine gg [.b (decide ((↑i : Int) < (↑(List.length l) : Int))) true, .w ((0 : Int) ≤ (↑i : Int)), .n (Int.toNat (↑i : Int)) i, .g (List.map Input.enc l) i (Input.enc (gt l i)), .w (isFnB cx g = true), .a _ _, .tt] ⟨tP, oW, o_n (by kernel_rfl), o_gt rfl (by assumption) (by intro h; cases h), oA, o_a hy, trivial⟩ ?_
      exact ge
    | false =>
      rw [hp] at hy
      simp only [Bool.false_eq_true, if_false]
      cases hq : (l.drop (i+1)).findIdx? p with
      | none =>
        rw [hq] at ih1
        refine Wp.ev ?_
        refine gg [.b (decide ((↑i : Int) < (↑(List.length l) : Int))) true, .w ((0 : Int) ≤ (↑i : Int)), .n (Int.toNat (↑i : Int)) i, .g (List.map Input.enc l) i (Input.enc (gt l i)), .w (isFnB cx g = true), .a _ _, .ff, .i IntKind.i64 ((↑i : Int) + 1) ((↑(i + 1) : Int)), .a _ _] ⟨tP, oW, o_n (by kernel_rfl), o_gt rfl (by assumption) (by intro h; cases h), oA, o_a hy, oI, o_a ih1, trivial⟩ ?_
        exact ge
      | some j =>
        rw [hq] at ih1
        refine Wp.ev ?_
        refine gg [.b (decide ((↑i : Int) < (↑(List.length l) : Int))) true, .w ((0 : Int) ≤ (↑i : Int)), .n (Int.toNat (↑i : Int)) i, .g (List.map Input.enc l) i (Input.enc (gt l i)), .w (isFnB cx g = true), .a _ _, .ff, .i IntKind.i64 ((↑i : Int) + 1) ((↑(i + 1) : Int)), .a _ _] ⟨tP, oW, o_n (by kernel_rfl), o_gt rfl (by assumption) (by intro h; cases h), oA, o_a hy, oI, o_a ih1, trivial⟩ ?_
        refine rt (a := Res.mk Ex.ret [V.t (T.sl 3 (List.map Input.enc l)), V.t (T.clo g cs), vi (↑(i + 1 + j) : Int), vi (↑(List.length l) : Int), vi (↑(i + 1 + j) : Int)] []) (by kernel_rfl) ?_
        simp [Nat.add_assoc, Nat.add_comm 1 j]
theorem f_slices_IndexFunc_Input (l : List Input) (g : Nat) (cs : List T) (p : Input → Bool) (hb : isFnB cx g = true) (hn : small l)
    (hg : ∀ e ∈ l, Fn cx g (e.enc :: cs) (.bool (p e))) : Fn cx 161 [.sl 3 (l.map Input.enc), .clo g cs] (ti (pos p l)) := by
  have h := f_slices_IndexFunc_loop_Input l g cs p hb hn hg l.length 0 (by omega)
  clear hg
  rw [List.drop_zero] at h
  unfold pos
  cases hq : l.findIdx? p with
  | none =>
    rw [hq] at h
    refine Wp.ev ?_
    refine gg [.n (List.length (List.map Input.enc l)) (List.length l), .a _ _] ⟨o_n (by simp), o_a h, trivial⟩ ?_
    exact ge
  | some j =>
    rw [hq] at h
    refine Wp.ev ?_
    refine gg [.n (List.length (List.map Input.enc l)) (List.length l), .a _ _] ⟨o_n (by simp), o_a h, trivial⟩ ?_
    refine rt (a := Res.mk Ex.ret [vi (↑(0 + j) : Int)] []) (by kernel_rfl) ?_
    simp
end Go.Eva.S3

/- Generic functions of slices, more. -/
namespace Go.Eva.S3
theorem f_slices_DeleteFunc_loop_Cross (l : List Cross) (g : Nat) (cs : List T) (p : Cross → Bool) (hb : isFnB cx g = true) (hn : small l)
    (hg : ∀ e ∈ l, Fn cx g (e.enc :: cs) (.bool (p e))) : ∀ (d i j : Nat) (A : List Cross), j + d = l.length → A.length = l.length → A.drop j = l.drop j → i < j →
    Is cx (.loop 150 [0, 1, 0, 1, 1, 1] 1 [.all 0 none, .t (.clo g cs), vi i, vi j] [.arr 15 (A.map Cross.enc) none false])
      ⟨.exit 0, [.all 0 none, .t (.clo g cs), vi (dfl p A i (l.drop j)).1, vi l.length], [.arr 15 ((dfl p A i (l.drop j)).2.map Cross.enc) none false]⟩ := by
  unfold small at hn
  intro d
  induction d with
  | zero =>
    intro i j A hj hA hd hi
    have hl := drop_end (l := l) (i := j) (by omega)
    rw [hl]
    refine Wp.ev ?_
    refine gg [.n (List.length (List.map Cross.enc A)) (List.length A), .b (decide ((↑j : Int) < (↑(List.length A) : Int))) false] ⟨o_n (by simp), fP, trivial⟩ ?_
    refine rt (a := Res.mk (Ex.exit 0) [V.all 0 none, V.t (T.clo g cs), vi (↑i : Int), vi (↑j : Int)] [Ob.arr 15 (List.map Cross.enc A) none false]) (by kernel_rfl) ?_
    ((have hq : j = l.length := by omega); subst hq; simp [dfl])
  | succ d ih =>
    intro i j A hj hA hd hi
    have hlt : j < l.length := by omega
    have hy := hg _ (gt_mem hlt)
    have hx : A[j]? = some (gt l j) := by rw [← List.head?_drop, hd, drop_gt hlt]; rfl
    have ih1 := ih i (j + 1) A (by omega) hA (by rw [← List.drop_drop, hd, List.drop_drop]) (by omega)
    have ih2 := ih (i + 1) (j + 1) (A.set i (gt l j)) (by omega) (by simpa using hA) (by rw [List.drop_set_of_lt (by omega), ← List.drop_drop, hd, List.drop_drop]) (by omega)
    clear ih hg
    rw [drop_gt hlt]
    cases hp : p (gt l j) with
    | true =>
      rw [hp] at hy
      refine Wp.ev ?_
      refine gg [.n (List.length (List.map Cross.enc A)) (List.length A), .b (decide ((↑j : Int) < (↑(List.length A) : Int))) true, .w ((0 : Int) ≤ (↑j : Int)), .n (Int.toNat (↑j : Int)) j, .w (j < List.length (List.map Cross.enc A)), .g (List.map Cross.enc A) j (Cross.enc (gt l j)), .w (isFnB cx g = true), .a _ _, .b (!true) false, .i IntKind.i64 ((↑j : Int) + 1) ((↑(j + 1) : Int)), .a _ _] ⟨o_n (by simp), tP, oW, o_n (by kernel_rfl), o_w (by (simp; omega)), o_gm rfl hx (by intro h; cases h), oA, o_a hy, o_b (by kernel_rfl), oI, o_a ih1, trivial⟩ ?_
      refine rt (a := Res.mk (Ex.exit 0) [V.all 0 none, V.t (T.clo g cs), vi (↑(dfl p A i (List.drop (j + 1) l)).fst : Int), vi (↑(List.length l) : Int)] [Ob.arr 15 (List.map Cross.enc (dfl p A i (List.drop (j + 1) l)).snd) none false]) (by kernel_rfl) ?_
      simp [dfl, hp]
    | false =>
      rw [hp] at hy
      refine Wp.ev ?_
      refine gg [.n (List.length (List.map Cross.enc A)) (List.length A), .b (decide ((↑j : Int) < (↑(List.length A) : Int))) true, .w ((0 : Int) ≤ (↑j : Int)), .n (Int.toNat (↑j : Int)) j, .w (j < List.length (List.map Cross.enc A)), .g (List.map Cross.enc A) j (Cross.enc (gt l j)), .w (isFnB cx g = true), .a _ _, .b (!false) true, .w ((0 : Int) ≤ (↑i : Int)), .n (Int.toNat (↑i : Int)) i, .w (i < List.length (List.map Cross.enc A)), .w (i < List.length (List.map Cross.enc A)), .t (T.sl 0 (List.set (List.map Cross.enc A) i (Cross.enc (gt l j)))) (T.sl 0 (List.map Cross.enc (List.set A i (gt l j)))), .i IntKind.i64 ((↑i : Int) + 1) ((↑(i + 1) : Int)), .i IntKind.i64 ((↑j : Int) + 1) ((↑(j + 1) : Int))] ⟨o_n (by simp), tP, oW, o_n (by kernel_rfl), o_w (by (simp; omega)), o_gm rfl hx (by intro h; cases h), oA, o_a hy, o_b (by kernel_rfl), oW, o_n (by kernel_rfl), o_w (by (simp; omega)), o_w (by (simp; omega)), o_l (nm_set rfl rfl), oI, oI, trivial⟩ ?_
      refine gg [.a _ _] ⟨o_a ih2, trivial⟩ ?_
      refine rt (a := Res.mk (Ex.exit 0) [V.all 0 none, V.t (T.clo g cs), vi (↑(dfl p (List.set A i (gt l j)) (i + 1) (List.drop (j + 1) l)).fst : Int), vi (↑(List.length l) : Int)] [Ob.arr 15 (List.map Cross.enc (dfl p (List.set A i (gt l j)) (i + 1) (List.drop (j + 1) l)).snd) none false]) (by kernel_rfl) ?_
      simp [dfl, hp]
theorem f_slices_DeleteFunc_Cross (l : List Cross) (g : Nat) (cs : List T) (p : Cross → Bool) (hb : isFnB cx g = true) (hn : small l)
    (hg : ∀ e ∈ l, Fn cx g (e.enc :: cs) (.bool (p e))) : Is cx (.call 150 [.all 0 none, .t (.clo g cs)] [.arr 15 (l.map Cross.enc) none false])
      ⟨.ret, [.all 1 none], [.dead, .arr 15 ((l.filter fun e => !p e).map Cross.enc) none false]⟩ := by
  have h0 := f_slices_IndexFunc_Cross l g cs p hb hn hg
  have h1 := f_slices_DeleteFunc_loop_Cross l g cs p hb hn hg
  clear hg
  unfold pos at h0
  have hn' : l.length ≤ 1000000 := hn
  cases hq : l.findIdx? p with
  | none =>
    rw [hq] at h0; simp only at h0
    have hf := find_none hq
    refine Wp.ev ?_
    refine gg [.a _ _, .b (flats [ti (-1)]) true, .b (-1 == -1) true] ⟨o_a h0, o_b (by kernel_rfl), o_b (by kernel_rfl), trivial⟩ ?_
    refine rt (a := Res.mk Ex.ret [V.all 1 none] [Ob.dead, Ob.arr 15 (List.map Cross.enc l) none false]) (by kernel_rfl) ?_
    (refine res_arr ?_; rw [hf])
  | some k =>
    rw [hq] at h0; simp only at h0
    obtain ⟨hk, hf⟩ := find_some hq
    have h1' := h1 (l.length - (k + 1)) k (k + 1) l (by omega) rfl rfl (by omega)
    clear h1
    have hl := @dfl_len _ p (l.drop (k + 1)) l k
    have ht := @dfl_take _ p (l.drop (k + 1)) l k (by simp; omega)
    simp only [List.length_drop] at hl
    generalize hr : dfl p l k (l.drop (k + 1)) = r at *
    obtain ⟨i, A⟩ := r
    simp only at hl ht h1'
    refine Wp.ev ?_
    refine gg [.a _ _, .b (flats [ti (↑k : Int)]) true, .b ((↑k : Int) == -1) false, .i IntKind.i64 ((↑k : Int) + 1) ((↑(k + 1) : Int)), .a _ _, .w ((0 : Int) ≤ (↑i : Int)), .n (Int.toNat (↑i : Int)) i, .w (i ≤ List.length (List.map Cross.enc A) ∧ List.length (List.map Cross.enc A) ≤ List.length (List.map Cross.enc A)), .n (0 + i) i, .n (List.length (List.map Cross.enc A) - i) (List.length A - i), .n (min (List.length (List.replicate (List.length A - i) (T.agg [ti 0, ti 0, ti 0, ti 0, ti 0, ti 0, ti 0, ti 0, ti 0, ti 0, ti 0, ti 0, ti 0, ti 0, ti 0]))) (List.length A - i)) (List.length A - i), .t (T.sl 0 (List.take i (List.map Cross.enc A) ++ List.take (List.length A - i) (List.replicate (List.length A - i) (T.agg [ti 0, ti 0, ti 0, ti 0, ti 0, ti 0, ti 0, ti 0, ti 0, ti 0, ti 0, ti 0, ti 0, ti 0, ti 0])) ++ List.drop (i + (List.length A - i)) (List.map Cross.enc A))) (T.sl 0 (List.map Cross.enc (List.take i A ++ List.replicate (List.length A - i) (Cross.mk 0 0 0 0 (Entity.mk 0 0 0 0 0 0 0 0 0) 0 0) ++ List.drop (i + (List.length A - i)) A))), .w ((0 : Int) ≤ (↑i : Int)), .n (Int.toNat (↑i : Int)) i, .w ((0 : Nat) ≤ i ∧ i ≤ List.length (List.map Cross.enc (List.take i A ++ List.replicate (List.length A - i) (Cross.mk (0 : Int) (0 : Int) (0 : Int) (0 : Int) (Entity.mk (0 : Int) (0 : Int) (0 : Int) (0 : Int) (0 : Int) (0 : Int) (0 : Int) (0 : Int) (0 : Int)) (0 : Int) (0 : Int)) ++ List.drop (i + (List.length A - i)) A))), .l 0] ⟨o_a h0, o_b (by kernel_rfl), o_b (by kernel_rfl), oI, o_a h1', oW, o_n (by kernel_rfl), o_w ⟨(by (simp; omega)), (by omega)⟩, oN, o_n (by simp), o_n (by simp), o_l (nm_eq (nm_app (nm_app (nm_take rfl) (nm_take (nm_rep (e := Cross.mk 0 0 0 0 (Entity.mk 0 0 0 0 0 0 0 0 0) 0 0) rfl))) (nm_drop rfl)) (by simp)), oW, o_n (by kernel_rfl), o_w ⟨(by omega), (by (simp; omega))⟩, trivial⟩ ?_
    refine gg [.n (i - 0) i, .t (T.sl 0 (List.take i (List.map Cross.enc (List.take i A ++ List.replicate (List.length A - i) (Cross.mk 0 0 0 0 (Entity.mk 0 0 0 0 0 0 0 0 0) 0 0) ++ List.drop (i + (List.length A - i)) A)))) (T.sl 0 (List.map Cross.enc (List.take i (List.take i A ++ List.replicate (List.length A - i) (Cross.mk 0 0 0 0 (Entity.mk 0 0 0 0 0 0 0 0 0) 0 0) ++ List.drop (i + (List.length A - i)) A))))] ⟨o_n (by kernel_rfl), o_l (nm_take rfl), trivial⟩ ?_
    refine rt (a := Res.mk Ex.ret [V.all 1 none] [Ob.dead, Ob.arr 15 (List.map Cross.enc (List.take i (List.take i A ++ List.replicate (List.length A - i) (Cross.mk 0 0 0 0 (Entity.mk 0 0 0 0 0 0 0 0 0) 0 0) ++ List.drop (i + (List.length A - i)) A))) none false]) (by kernel_rfl) ?_
    (refine res_arr ?_; rw [hf, ← ht, List.append_assoc, List.take_append_of_le_length (by simp; omega), List.take_take, Nat.min_self])
end Go.Eva.S3

/- Eva, part 44: lists of entities, in plain words. -/
namespace Go.Eva

def find (l : List Entity) (id : Int) : Int := pos (fun e => e.id == id) l
/-- One is put where it belongs. -/
def ins (l : List Entity) (e : Entity) : List Entity := match l.findIdx? fun x => decide (x.id ≥ e.id) with
  | some k => l.take k ++ e :: l.drop k
  | none => l ++ [e]
def put1 (l : List Entity) (e : Entity) : List Entity := match l.findIdx? fun x => x.id == e.id with
  | some _ => l
  | none => ins l e
def puts (l m : List Entity) : List Entity := m.foldl put1 l
def has (ids : List Int) (id : Int) : Bool := ids.any fun x => x == id
def drops (l : List Entity) (ids : List Int) : List Entity := l.filter fun e => !has ids e.id
def things (l : List Entity) : Int := (l.countP fun e => e.kind != 1 : Nat)
def sortedL : List Entity → Bool
  | a :: b :: r => decide (a.id < b.id) && sortedL (b :: r)
  | _ => true
theorem pos_none {α : Type} {p : α → Bool} {l : List α} (h : l.findIdx? p = none) : pos p l = -1 := by simp [pos, h]
theorem pos_some {α : Type} {p : α → Bool} {l : List α} {k : Nat} (h : l.findIdx? p = some k) : pos p l = (k : Int) := by simp [pos, h]
theorem ins_len {l : List Entity} {e : Entity} : (ins l e).length = l.length + 1 := by
  unfold ins
  split
  · rename_i k h
    have := (List.findIdx?_eq_some_iff_getElem.1 h).1
    simp; omega
  · simp
theorem put1_len {l : List Entity} {e : Entity} : l.length ≤ (put1 l e).length ∧ (put1 l e).length ≤ l.length + 1 := by
  unfold put1
  split
  · omega
  · rw [ins_len]; omega
theorem sorted_gt {l : List Entity} {i : Nat} (h : i + 1 < l.length) : sortedL (l.drop i) = (decide ((gt l i).id < (gt l (i + 1)).id) && sortedL (l.drop (i + 1))) := by
  rw [drop_gt (by omega), drop_gt h, sortedL]
theorem sorted_end {l : List Entity} {i : Nat} (h : l.length ≤ i + 1) : sortedL (l.drop i) = true := by
  rcases Nat.lt_or_ge i l.length with h1 | h1
  · rw [drop_gt h1, drop_end (by omega)]; rfl
  · rw [drop_end h1]; rfl
theorem countP_gt {l : List Entity} {i : Nat} (p : Entity → Bool) (h : i < l.length) : (l.drop i).countP p = (if p (gt l i) = true then 1 else 0) + (l.drop (i + 1)).countP p := by
  rw [drop_gt h, List.countP_cons]; omega
theorem filter_gt {α : Type} [Inhabited α] {l : List α} {i : Nat} (p : α → Bool) (h : i < l.length) : (l.drop i).filter p = (if p (gt l i) = true then [gt l i] else []) ++ (l.drop (i + 1)).filter p := by
  rw [drop_gt h, List.filter_cons]; split <;> simp
theorem has_pos {l : List Int} {x : Int} : (decide (pos (fun y => x == y) l ≥ 0)) = has l x := by
  unfold has
  cases h : l.findIdx? fun y => x == y with
  | none =>
    rw [pos_none h]
    have := List.findIdx?_eq_none_iff.1 h
    symm
    rw [show (l.any fun y => y == x) = false from ?_]
    · rfl
    · rw [List.any_eq_false]
      intro y hy
      have := this y hy
      simp at this ⊢
      exact fun e => this e.symm
  | some k =>
    rw [pos_some h]
    obtain ⟨hk, h1, _⟩ := List.findIdx?_eq_some_iff_getElem.1 h
    symm
    simp only [ge_iff_le, Int.natCast_nonneg, decide_true]
    rw [List.any_eq_true]
    exact ⟨l[k], List.getElem_mem _, by simp at h1 ⊢; exact h1.symm⟩
/-- Are two lists alike? -/
def plain {α : Type} [DecidableEq α] (a b : List α) : Bool := decide (a = b)
abbrev CrossL := List Cross
def encL (l : List Cross) : T := .sl 15 (l.map Cross.enc)
end Go.Eva

/- Entities. -/
namespace Go.Eva.S3
theorem f_entity_Find_1 (e : Entity) (id : Int) : Fn cx 165 [e.enc, .ip 1 (ti id) 0] (.bool (e.id == id)) := by
  refine Wp.ev ?_
  exact ge
theorem f_entity_Put_1 (e x : Entity) : Fn cx 148 [x.enc, .ip 9 e.enc 0] (.bool (decide (x.id ≥ e.id))) := by
  refine Wp.ev ?_
  exact ge
theorem f_entity_Find (l : List Entity) (id : Int) (hl : small l) : Fn cx 113 [.sl 9 (l.map Entity.enc), ti id] (ti (find l id)) := by
  have h := f_slices_IndexFunc_Entity l 165 [.ip 1 (ti id) 0] (fun e => e.id == id) (by kernel_rfl) hl (fun e _ => f_entity_Find_1 e id)
  refine Wp.ev ?_
  refine gg [.a _ _, .b (flats [ti (pos (fun (e : Entity) ↦ e.id == id) l)]) true] ⟨o_a h, o_b (by kernel_rfl), trivial⟩ ?_
  exact ge
theorem f_entity_Put_loop (m : List Entity) (hm : m.length ≤ 400000) : ∀ (d i : Nat) (A : List Entity), i + d = m.length → A.length ≤ 400000 + i →
    Is cx (.loop 82 [0, 1, 0, 1, 1] 0 [.all 0 none, .t (.sl 9 (m.map Entity.enc)), vi m.length, vi i] [.arr 9 (A.map Entity.enc) none false])
      ⟨.exit 0, [.all 0 none, .t (.sl 9 (m.map Entity.enc)), vi m.length, vi m.length], [.arr 9 ((puts A (m.drop i)).map Entity.enc) none false]⟩ := by
  intro d
  induction d with
  | zero =>
    intro i A hi hA
    rw [drop_end (by omega)]
    refine Wp.ev ?_
    refine gg [.b (decide ((↑i : Int) < (↑(List.length m) : Int))) false] ⟨fP, trivial⟩ ?_
    refine rt (a := Res.mk (Ex.exit 0) [V.all 0 none, V.t (T.sl 9 (List.map Entity.enc m)), vi (↑(List.length m) : Int), vi (↑i : Int)] [Ob.arr 9 (List.map Entity.enc A) none false]) (by kernel_rfl) ?_
    ((have hq : i = m.length := by omega); subst hq; rfl)
  | succ d ih =>
    intro i A hi hA
    have hlt : i < m.length := by omega
    rw [drop_gt hlt]
    show Is cx _ ⟨_, _, [.arr 9 ((puts (put1 A (gt m i)) (m.drop (i + 1))).map Entity.enc) none false]⟩
    have hl := @put1_len A (gt m i)
    have ih1 := ih (i + 1) (put1 A (gt m i)) (by omega) (by omega)
    clear ih
    have hs : small A := by unfold small; omega
    have hF := f_entity_Find A (gt m i).id hs
    have hG := f_slices_IndexFunc_Entity A 148 [.ip 9 (gt m i).enc 0] (fun x => decide (x.id ≥ (gt m i).id)) (by kernel_rfl) hs (fun x _ => f_entity_Put_1 (gt m i) x)
    clear hl
    unfold find at hF
    unfold put1 at *
    cases hq : A.findIdx? fun x => x.id == (gt m i).id with
    | some k =>
      rw [hq] at ih1
      rw [pos_some hq] at hF
      simp only at ih1 ⊢
      refine Wp.ev ?_
      refine gg [.b (decide ((↑i : Int) < (↑(List.length m) : Int))) true, .w ((0 : Int) ≤ (↑i : Int)), .n (Int.toNat (↑i : Int)) i, .g (List.map Entity.enc m) i (Entity.enc (gt m i)), .a _ _, .b (flats [ti (↑k : Int)]) true, .b (decide ((↑k : Int) ≥ 0)) true, .i IntKind.i64 ((↑i : Int) + 1) ((↑(i + 1) : Int)), .a _ _] ⟨tP, oW, o_n (by kernel_rfl), o_gt rfl (by assumption) (by intro h; cases h), o_a hF, o_b (by kernel_rfl), o_b (by kernel_rfl), oI, o_a ih1, trivial⟩ ?_
      exact ge
    | none =>
      rw [hq] at ih1
      rw [pos_none hq] at hF
      simp only at ih1 ⊢
      unfold ins at *
      cases hp : A.findIdx? fun x => decide (x.id ≥ (gt m i).id) with
      | some k =>
        rw [hp] at ih1
        rw [pos_some hp] at hG
        simp only at ih1 ⊢
        have hk := (List.findIdx?_eq_some_iff_getElem.1 hp).1
        refine Wp.ev ?_
        refine gg [.b (decide ((↑i : Int) < (↑(List.length m) : Int))) true, .w ((0 : Int) ≤ (↑i : Int)), .n (Int.toNat (↑i : Int)) i, .g (List.map Entity.enc m) i (Entity.enc (gt m i)), .a _ _, .b (flats [ti (-1)]) true, .b (decide (-1 ≥ 0)) false, .a _ _, .b (flats [ti (↑k : Int)]) true, .b (decide ((↑k : Int) < 0)) false, .a _ _, .i IntKind.i64 ((↑i : Int) + 1) ((↑(i + 1) : Int)), .a _ _] ⟨tP, oW, o_n (by kernel_rfl), o_gt rfl (by assumption) (by intro h; cases h), o_a hF, o_b (by kernel_rfl), o_b (by kernel_rfl), o_a hG, o_b (by kernel_rfl), o_b (by kernel_rfl), o_a (f_slices_Insert_Entity A (gt m i) k (by assumption) (by omega)), oI, o_a ih1, trivial⟩ ?_
        exact ge
      | none =>
        rw [hp] at ih1
        rw [pos_none hp] at hG
        simp only at ih1 ⊢
        have hI := f_slices_Insert_Entity A (gt m i) A.length hs (Nat.le_refl _)
        rw [List.take_length, List.drop_length] at hI
        refine Wp.ev ?_
        refine gg [.b (decide ((↑i : Int) < (↑(List.length m) : Int))) true, .w ((0 : Int) ≤ (↑i : Int)), .n (Int.toNat (↑i : Int)) i, .g (List.map Entity.enc m) i (Entity.enc (gt m i)), .a _ _, .b (flats [ti (-1)]) true, .b (decide (-1 ≥ 0)) false, .a _ _, .b (flats [ti (-1)]) true, .b (decide (-1 < 0)) true, .n (List.length (List.map Entity.enc A)) (List.length A), .a _ _, .i IntKind.i64 ((↑i : Int) + 1) ((↑(i + 1) : Int)), .a _ _] ⟨tP, oW, o_n (by kernel_rfl), o_gt rfl (by assumption) (by intro h; cases h), o_a hF, o_b (by kernel_rfl), o_b (by kernel_rfl), o_a hG, o_b (by kernel_rfl), o_b (by kernel_rfl), o_n (by simp), o_a hI, oI, o_a ih1, trivial⟩ ?_
        exact ge
theorem f_entity_Put (l m : List Entity) (hl : l.length ≤ 400000) (hm : m.length ≤ 400000) : Is cx (.call 82 [.t (.sl 9 (l.map Entity.enc)), .t (.sl 9 (m.map Entity.enc))] []) ⟨.ret, [.all 0 none], [.arr 9 ((puts l m).map Entity.enc) none false]⟩ := by
  have hs : small l := by unfold small; omega
  have h := f_entity_Put_loop m hm m.length 0 l (by omega) (by omega)
  rw [List.drop_zero] at h
  refine Wp.ev ?_
  refine gg [.a _ _, .n (List.length (List.map Entity.enc m)) (List.length m), .a _ _] ⟨o_a (f_slices_Clone_Entity l (by assumption)), o_n (by simp), o_a h, trivial⟩ ?_
  exact ge
theorem f_entity_Sorted_loop (l : List Entity) (hn : small l) : ∀ (d i : Nat), i + d = l.length → 1 ≤ i →
    ∃ k : Nat, Is cx (.loop 93 [0, 1, 0, 1] 0 [.t (.sl 9 (l.map Entity.enc)), vb false, vi l.length, vi i] []) (match sortedL (l.drop (i - 1)) with
       | true => ⟨.exit 0, [.t (.sl 9 (l.map Entity.enc)), vb false, vi l.length, vi l.length], []⟩
       | false => ⟨.ret, [.t (.sl 9 (l.map Entity.enc)), vb false, vi l.length, vi k], []⟩) := by
  unfold small at hn
  intro d
  induction d with
  | zero =>
    intro i hi h1
    refine ⟨0, ?_⟩
    rw [sorted_end (by omega)]
    refine Wp.ev ?_
    refine gg [.b (decide ((↑i : Int) < (↑(List.length l) : Int))) false] ⟨fP, trivial⟩ ?_
    refine rt (a := Res.mk (Ex.exit 0) [V.t (T.sl 9 (List.map Entity.enc l)), vb false, vi (↑(List.length l) : Int), vi (↑i : Int)] []) (by kernel_rfl) ?_
    ((have hq : i = l.length := by omega); subst hq; rfl)
  | succ d ih =>
    intro i hi h1
    have hlt : i < l.length := by omega
    obtain ⟨k, ih1⟩ := ih (i + 1) (by omega) (by omega)
    clear ih
    obtain ⟨j, rfl⟩ : ∃ j, i = j + 1 := ⟨i - 1, by omega⟩
    simp only [Nat.add_sub_cancel] at *
    rw [sorted_gt hlt]
    by_cases hp : (gt l j).id < (gt l (j + 1)).id
    · simp only [hp, decide_true, Bool.true_and]
      refine ⟨k, ?_⟩
      cases hq : sortedL (l.drop (j + 1)) with
      | true => rw [hq] at ih1
                refine Wp.ev ?_
                refine gg [.b (decide ((↑(j + 1) : Int) < (↑(List.length l) : Int))) true, .b (decide ((↑(j + 1) : Int) > 0)) true, .tt, .tt, .w ((0 : Int) ≤ (↑(j + (1 : Nat)) : Int)), .n (Int.toNat (↑(j + 1) : Int)) (j + 1), .g (List.map Entity.enc l) (j + 1) (Entity.enc (gt l (j + 1))), .tt, .tt, .tt, .tt, .i IntKind.i64 ((↑(j + 1) : Int) - 1) ((↑(j + 1) : Int) - 1), .tt, .w ((0 : Int) ≤ (↑(j + (1 : Nat)) : Int) - (1 : Int)), .n (Int.toNat ((↑(j + 1) : Int) - 1)) j, .g (List.map Entity.enc l) j (Entity.enc (gt l j))] ⟨tP, tP, oW, o_n (by kernel_rfl), o_gt rfl (by assumption) (by intro h; cases h), oI, oW, oN, oT, trivial⟩ ?_
                refine gg [.tt, .tt, .tt, .tt, .tt, .b (decide ((gt l (j + 1)).id ≤ (gt l j).id)) false, .i IntKind.i64 ((↑(j + 1) : Int) + 1) ((↑(j + 1 + 1) : Int)), .a _ _] ⟨fP, oI, o_a ih1, trivial⟩ ?_
                exact ge
      | false => rw [hq] at ih1
                 refine Wp.ev ?_
                 refine gg [.b (decide ((↑(j + 1) : Int) < (↑(List.length l) : Int))) true, .b (decide ((↑(j + 1) : Int) > 0)) true, .tt, .tt, .w ((0 : Int) ≤ (↑(j + (1 : Nat)) : Int)), .n (Int.toNat (↑(j + 1) : Int)) (j + 1), .g (List.map Entity.enc l) (j + 1) (Entity.enc (gt l (j + 1))), .tt, .tt, .tt, .tt, .i IntKind.i64 ((↑(j + 1) : Int) - 1) ((↑(j + 1) : Int) - 1), .tt, .w ((0 : Int) ≤ (↑(j + (1 : Nat)) : Int) - (1 : Int)), .n (Int.toNat ((↑(j + 1) : Int) - 1)) j, .g (List.map Entity.enc l) j (Entity.enc (gt l j))] ⟨tP, tP, oW, o_n (by kernel_rfl), o_gt rfl (by assumption) (by intro h; cases h), oI, oW, oN, oT, trivial⟩ ?_
                 refine gg [.tt, .tt, .tt, .tt, .tt, .b (decide ((gt l (j + 1)).id ≤ (gt l j).id)) false, .i IntKind.i64 ((↑(j + 1) : Int) + 1) ((↑(j + 1 + 1) : Int)), .a _ _] ⟨fP, oI, o_a ih1, trivial⟩ ?_
                 exact ge
    · simp only [hp, decide_false, Bool.false_and]
      refine ⟨j + 1, ?_⟩
      refine Wp.ev ?_
      refine gg [.b (decide ((↑(j + 1) : Int) < (↑(List.length l) : Int))) true, .b (decide ((↑(j + 1) : Int) > 0)) true, .tt, .tt, .w ((0 : Int) ≤ (↑(j + (1 : Nat)) : Int)), .n (Int.toNat (↑(j + 1) : Int)) (j + 1), .g (List.map Entity.enc l) (j + 1) (Entity.enc (gt l (j + 1))), .tt, .tt, .tt, .tt, .i IntKind.i64 ((↑(j + 1) : Int) - 1) ((↑(j + 1) : Int) - 1), .tt, .w ((0 : Int) ≤ (↑(j + (1 : Nat)) : Int) - (1 : Int)), .n (Int.toNat ((↑(j + 1) : Int) - 1)) j, .g (List.map Entity.enc l) j (Entity.enc (gt l j))] ⟨tP, tP, oW, o_n (by kernel_rfl), o_gt rfl (by assumption) (by intro h; cases h), oI, oW, oN, oT, trivial⟩ ?_
      refine gg [.tt, .tt, .tt, .tt, .tt, .b (decide ((gt l (j + 1)).id ≤ (gt l j).id)) true] ⟨tP, trivial⟩ ?_
      exact ge
theorem f_entity_Sorted (l : List Entity) (hn : small l) : Fn cx 93 [.sl 9 (l.map Entity.enc)] (.bool (sortedL l)) := by
  have hn' : l.length ≤ 1000000 := hn
  have hz : l.length = 0 → Is cx (.loop 93 [0, 1, 0, 1] 0 [.t (.sl 9 (l.map Entity.enc)), vb false, vi l.length, vi 0] []) ⟨.exit 0, [.t (.sl 9 (l.map Entity.enc)), vb false, vi l.length, vi l.length], []⟩ := by
    intro h0
    rw [h0]
    refine Wp.ev ?_
    refine gg [.b (decide (0 < 0)) false] ⟨o_b (by kernel_rfl), trivial⟩ ?_
    exact ge
  by_cases h0 : l.length = 0
  · have h := hz h0
    have : l = [] := List.length_eq_zero_iff.1 h0
    subst this
    refine Wp.ev ?_
    refine gg [.l 0, .a _ _] ⟨o_a (hz (by kernel_rfl)), trivial⟩ ?_
    exact ge
  · clear hz
    obtain ⟨k, h⟩ := f_entity_Sorted_loop l hn (l.length - 1) 1 (by omega) (by omega)
    simp only [Nat.sub_self, List.drop_zero] at h
    have hz : Is cx (.loop 93 [0, 1, 0, 1] 0 [.t (.sl 9 (l.map Entity.enc)), vb false, vi l.length, vi 0] []) (match sortedL l with
       | true => ⟨.exit 0, [.t (.sl 9 (l.map Entity.enc)), vb false, vi l.length, vi l.length], []⟩
       | false => ⟨.ret, [.t (.sl 9 (l.map Entity.enc)), vb false, vi l.length, vi k], []⟩) := by
      cases hq : sortedL l with
      | true => rw [hq] at h
                refine Wp.ev ?_
                refine gg [.b (decide (0 < (↑(List.length l) : Int))) true, .b (decide (0 > 0)) false, .ff, .ff, .ff, .ff, .ff, .ff, .ff, .ff, .ff, .ff, .ff, .ff, .ff, .i IntKind.i64 1 1] ⟨tP, o_b (by kernel_rfl), oK, trivial⟩ ?_
                refine gg [.a _ _] ⟨o_a h, trivial⟩ ?_
                exact ge
      | false => rw [hq] at h
                 refine Wp.ev ?_
                 refine gg [.b (decide (0 < (↑(List.length l) : Int))) true, .b (decide (0 > 0)) false, .ff, .ff, .ff, .ff, .ff, .ff, .ff, .ff, .ff, .ff, .ff, .ff, .ff, .i IntKind.i64 1 1] ⟨tP, o_b (by kernel_rfl), oK, trivial⟩ ?_
                 refine gg [.a _ _] ⟨o_a h, trivial⟩ ?_
                 exact ge
    clear h
    cases hq : sortedL l with
    | true => rw [hq] at hz
              refine Wp.ev ?_
              refine gg [.n (List.length (List.map Entity.enc l)) (List.length l), .a _ _] ⟨o_n (by simp), o_a hz, trivial⟩ ?_
              exact ge
    | false => rw [hq] at hz
               refine Wp.ev ?_
               refine gg [.n (List.length (List.map Entity.enc l)) (List.length l), .a _ _] ⟨o_n (by simp), o_a hz, trivial⟩ ?_
               exact ge
theorem f_slices_Index_loop_int (l : List Int) (x : Int) (hn : small l) : ∀ (d i : Nat), i + d = l.length →
    Is cx (.loop 183 [0, 1, 0, 1] 0 [.t (.sl 1 (l.map ti)), vi x, vi 0, vi l.length, vi i] [])
      (match (l.drop i).findIdx? fun y => x == y with
        | some j => ⟨.ret, [.t (.sl 1 (l.map ti)), vi x, vi (i + j : Nat), vi l.length, vi (i + j : Nat)], []⟩
        | none => ⟨.exit 0, [.t (.sl 1 (l.map ti)), vi x, vi 0, vi l.length, vi l.length], []⟩) := by
  unfold small at hn
  intro d
  induction d with
  | zero =>
    intro i hi
    refine Wp.ev ?_
    refine gg [.b (decide ((↑i : Int) < (↑(List.length l) : Int))) false] ⟨fP, trivial⟩ ?_
    refine rt (a := Res.mk (Ex.exit 0) [V.t (T.sl 1 (List.map ti l)), vi x, vi 0, vi (↑(List.length l) : Int), vi (↑i : Int)] []) (by kernel_rfl) ?_
    ((have : i = l.length := by omega); subst this; rw [drop_end (Nat.le_refl _)]; rfl)
  | succ d ih =>
    intro i hi
    have hlt : i < l.length := by omega
    have ih1 := ih (i + 1) (by omega)
    clear ih
    rw [drop_gt hlt, List.findIdx?_cons]
    by_cases hp : x = gt l i
    · simp only [show (x == gt l i) = true by simpa using hp, if_true]
      refine Wp.ev ?_
      refine gg [.b (decide ((↑i : Int) < (↑(List.length l) : Int))) true, .w ((0 : Int) ≤ (↑i : Int)), .n (Int.toNat (↑i : Int)) i, .g (List.map ti l) i (ti (gt l i)), .b (x == gt l i) true] ⟨tP, oW, o_n (by kernel_rfl), o_gt rfl (by assumption) (by intro h; cases h), t_bre (by assumption), trivial⟩ ?_
      exact ge
    · simp only [show (x == gt l i) = false by simpa using hp, Bool.false_eq_true, if_false]
      cases hq : (l.drop (i+1)).findIdx? fun y => x == y with
      | none =>
        rw [hq] at ih1
        refine Wp.ev ?_
        refine gg [.b (decide ((↑i : Int) < (↑(List.length l) : Int))) true, .w ((0 : Int) ≤ (↑i : Int)), .n (Int.toNat (↑i : Int)) i, .g (List.map ti l) i (ti (gt l i)), .b (x == gt l i) false, .i IntKind.i64 ((↑i : Int) + 1) ((↑(i + 1) : Int)), .a _ _] ⟨tP, oW, o_n (by kernel_rfl), o_gt rfl (by assumption) (by intro h; cases h), f_bre (by assumption), oI, o_a ih1, trivial⟩ ?_
        exact ge
      | some j =>
        rw [hq] at ih1
        refine Wp.ev ?_
        refine gg [.b (decide ((↑i : Int) < (↑(List.length l) : Int))) true, .w ((0 : Int) ≤ (↑i : Int)), .n (Int.toNat (↑i : Int)) i, .g (List.map ti l) i (ti (gt l i)), .b (x == gt l i) false, .i IntKind.i64 ((↑i : Int) + 1) ((↑(i + 1) : Int)), .a _ _] ⟨tP, oW, o_n (by kernel_rfl), o_gt rfl (by assumption) (by intro h; cases h), f_bre (by assumption), oI, o_a ih1, trivial⟩ ?_
        refine rt (a := Res.mk Ex.ret [V.t (T.sl 1 (List.map ti l)), vi x, vi (↑(i + 1 + j) : Int), vi (↑(List.length l) : Int), vi (↑(i + 1 + j) : Int)] []) (by kernel_rfl) ?_
        simp [Nat.add_assoc, Nat.add_comm 1 j]
theorem f_slices_Index_int (l : List Int) (x : Int) (hn : small l) : Fn cx 183 [.sl 1 (l.map ti), ti x] (ti (pos (fun y => x == y) l)) := by
  have h := f_slices_Index_loop_int l x hn l.length 0 (by omega)
  rw [List.drop_zero] at h
  unfold pos
  cases hq : l.findIdx? fun y => x == y with
  | none =>
    rw [hq] at h
    refine Wp.ev ?_
    refine gg [.n (List.length (List.map ti l)) (List.length l), .a _ _] ⟨o_n (by simp), o_a h, trivial⟩ ?_
    exact ge
  | some j =>
    rw [hq] at h
    refine Wp.ev ?_
    refine gg [.n (List.length (List.map ti l)) (List.length l), .a _ _] ⟨o_n (by simp), o_a h, trivial⟩ ?_
    refine rt (a := Res.mk Ex.ret [vi (↑(0 + j) : Int)] []) (by kernel_rfl) ?_
    simp
theorem f_slices_Contains_int (l : List Int) (x : Int) (hn : small l) : Fn cx 163 [.sl 1 (l.map ti), ti x] (.bool (has l x)) := by
  have h := f_slices_Index_int l x hn
  rw [← has_pos]
  generalize pos (fun y => x == y) l = k at *
  refine Wp.ev ?_
  refine gg [.a _ _] ⟨o_a h, trivial⟩ ?_
  exact ge
theorem f_entity_Things_loop (l : List Entity) (hn : small l) : ∀ (d i n : Nat), i + d = l.length → n ≤ i →
    Is cx (.loop 94 [0, 1, 0, 1, 1] 0 [vi n, .t (.sl 9 (l.map Entity.enc)), vi l.length, vi i] []) ⟨.exit 0, [vi (n + (l.drop i).countP fun e => e.kind != 1 : Nat), .t (.sl 9 (l.map Entity.enc)), vi l.length, vi l.length], []⟩ := by
  unfold small at hn
  intro d
  induction d with
  | zero =>
    intro i n hi hm
    rw [drop_end (by omega)]
    refine Wp.ev ?_
    refine gg [.b (decide ((↑i : Int) < (↑(List.length l) : Int))) false] ⟨fP, trivial⟩ ?_
    refine rt (a := Res.mk (Ex.exit 0) [vi (↑n : Int), V.t (T.sl 9 (List.map Entity.enc l)), vi (↑(List.length l) : Int), vi (↑i : Int)] []) (by kernel_rfl) ?_
    ((have hq : i = l.length := by omega); subst hq; rfl)
  | succ d ih =>
    intro i n hi hm
    have hlt : i < l.length := by omega
    have ih1 := ih (i + 1) n (by omega) (by omega)
    have ih2 := ih (i + 1) (n + 1) (by omega) (by omega)
    clear ih
    rw [countP_gt _ hlt]
    refine Wp.ev ?_
    refine gg [.b (decide ((↑i : Int) < (↑(List.length l) : Int))) true, .w ((0 : Int) ≤ (↑i : Int)), .n (Int.toNat (↑i : Int)) i, .g (List.map Entity.enc l) i (Entity.enc (gt l i))] ⟨tP, oW, o_n (by kernel_rfl), o_gt rfl (by assumption) (by intro h; cases h), trivial⟩ ?_
    refine brn (x := (gt l i).kind) (y := 1) (by kernel_rfl) (fun h1 => ?_) (fun h1 => ?_)
    · refine gg [.i IntKind.i64 ((↑n : Int) + 1) ((↑(n + 1) : Int)), .i IntKind.i64 ((↑i : Int) + 1) ((↑(i + 1) : Int)), .a _ _] ⟨oI, oI, o_a ih2, trivial⟩ ?_
      refine rt (a := Res.mk (Ex.exit 0) [vi (↑(n + 1 + List.countP (fun (e : Entity) ↦ e.kind != 1) (List.drop (i + 1) l)) : Int), V.t (T.sl 9 (List.map Entity.enc l)), vi (↑(List.length l) : Int), vi (↑(List.length l) : Int)] []) (by kernel_rfl) ?_
      (simp_all; try omega)
    · refine gg [.i IntKind.i64 ((↑i : Int) + 1) ((↑(i + 1) : Int)), .a _ _] ⟨oI, o_a ih1, trivial⟩ ?_
      refine rt (a := Res.mk (Ex.exit 0) [vi (↑(n + List.countP (fun (e : Entity) ↦ e.kind != 1) (List.drop (i + 1) l)) : Int), V.t (T.sl 9 (List.map Entity.enc l)), vi (↑(List.length l) : Int), vi (↑(List.length l) : Int)] []) (by kernel_rfl) ?_
      (simp_all; try omega)
theorem f_entity_Things (l : List Entity) (hn : small l) : Fn cx 94 [.sl 9 (l.map Entity.enc)] (ti (things l)) := by
  have h := f_entity_Things_loop l hn l.length 0 0 (by omega) (by omega)
  rw [List.drop_zero, Nat.zero_add] at h
  refine Wp.ev ?_
  refine gg [.n (List.length (List.map Entity.enc l)) (List.length l), .a _ _] ⟨o_n (by simp), o_a h, trivial⟩ ?_
  exact ge
end Go.Eva.S3

/- Eva, part 45: which entities are right. -/
namespace Go.Eva

def pace (v : Int) : Bool := decide (v = 0) || decide (v = 160) || decide (v = -160)
def Entity.right (c : Config) (e : Entity) : Bool := c.inside e.x e.y &&
  (if e.kind = 1 then within e.id 1 c.players && within e.vx (-64) 64 && within e.vy (-64) 64 && within e.health 1 100 && within e.age 0 6 && decide (e.owner = 0)
   else if e.kind = 2 then within e.id 1000 2147483647 && decide (e.health = 1) && pace e.vx && pace e.vy && (!decide (e.vx = 0) || !decide (e.vy = 0)) && within e.age 0 12 && within e.owner 1 c.players
   else if e.kind = 3 then within e.id 1000 2147483647 && decide (e.health = 1) && decide (e.vx = 0) && decide (e.vy = 0) && decide (e.age = 0) && decide (e.owner = 0)
   else false)

theorem beqd (a b : Int) : (a == b) = decide (a = b) := by rw [Bool.eq_iff_iff]; simp
theorem bned (a b : Int) : (a != b) = !decide (a = b) := by rw [Bool.eq_iff_iff]; simp
theorem teq_ent {a b : Entity} : teq a.enc b.enc = decide (a = b) := by rw [Bool.eq_iff_iff, teqIff, Entity.enc_inj, decide_eq_true_eq]
theorem Config.inside_false {c : Config} {x y : Int} (h : c.right = false) : c.inside x y = false := by
  cases hi : c.inside x y with
  | false => rfl
  | true =>
    simp only [Config.inside, Config.width, h, within_iff, Bool.and_eq_true, Bool.false_eq_true, if_false] at hi
    omega
theorem Config.inside_right {c : Config} {x y : Int} (h : c.inside x y = true) : c.right = true := by
  cases hr : c.right with
  | true => rfl
  | false => rw [Config.inside_false hr] at h; contradiction
end Go.Eva

/- Lists held against each other; which entities are right. -/
namespace Go.Eva.S3
end Go.Eva.S3

/- Which entities are right; the statements of the entities. -/
namespace Go.Eva.S3
theorem f_entity_pace (v : Int) : Fn cx 157 [ti v] (.bool (pace v)) := by
  refine Wp.ev ?_
  refine bre (x := v) (y := 0) (by kernel_rfl) (fun h1 => ?_) (fun h1 => ?_)
  · refine gg [.tt, .tt, .tt, .tt, .tt] trivial ?_
    refine rt (a := Res.mk Ex.ret [vb true] []) (by kernel_rfl) ?_
    simp_all [pace, beqd]
  · refine gg [.ff, .ff] trivial ?_
    refine bre (x := v) (y := 160) (by kernel_rfl) (fun h2 => ?_) (fun h2 => ?_)
    · refine gg [.tt, .tt] trivial ?_
      refine rt (a := Res.mk Ex.ret [vb true] []) (by kernel_rfl) ?_
      simp_all [pace, beqd]
    · refine gg [.ff, .ff] trivial ?_
      refine rt (a := Res.mk Ex.ret [vb (v == -160)] []) (by kernel_rfl) ?_
      simp_all [pace, beqd]
theorem f_entity_Right (c : Config) (e : Entity) : Fn cx 97 [c.enc, e.enc] (.bool (e.right c)) := by
  refine Wp.ev ?_
  refine gg [.a _ _] ⟨o_a (f_grid_Inside c e.x e.y), trivial⟩ ?_
  refine brnot (b := Config.inside c e.x e.y) (by kernel_rfl) (fun h1 => ?_) (fun h1 => ?_)
  · refine rt (a := Res.mk Ex.ret [vb false] []) (by kernel_rfl) ?_
    simp_all [Entity.right, beqd, bned]
  · refine gg [.a _ _] ⟨o_a (f_entity_within e.id 1000 2147483647), trivial⟩ ?_
    refine br (b := within e.id 1000 2147483647) (by kernel_rfl) (fun h2 => ?_) (fun h2 => ?_)
    · refine gg [.tt, .tt, .tt] trivial ?_
      refine bre (x := e.kind) (y := 1) (by kernel_rfl) (fun h3 => ?_) (fun h3 => ?_)
      · refine gg [.a _ _] ⟨o_a (f_entity_within e.id 1 c.players), trivial⟩ ?_
        refine br (b := within e.id 1 c.players) (by kernel_rfl) (fun h4 => ?_) (fun h4 => ?_)
        · refine gg [.tt, .tt, .a _ _, .tt] ⟨o_a (f_entity_within e.vx (-64) 64), trivial⟩ ?_
          refine br (b := within e.vx (-64) 64) (by kernel_rfl) (fun h5 => ?_) (fun h5 => ?_)
          · refine gg [.tt, .tt, .a _ _, .tt] ⟨o_a (f_entity_within e.vy (-64) 64), trivial⟩ ?_
            refine br (b := within e.vy (-64) 64) (by kernel_rfl) (fun h6 => ?_) (fun h6 => ?_)
            · refine gg [.tt, .tt, .a _ _, .tt] ⟨o_a (f_entity_within e.health 1 100), trivial⟩ ?_
              refine br (b := within e.health 1 100) (by kernel_rfl) (fun h7 => ?_) (fun h7 => ?_)
              · refine gg [.tt, .tt, .a _ _, .tt] ⟨o_a (f_entity_within e.age 0 6), trivial⟩ ?_
                refine br (b := within e.age 0 6) (by kernel_rfl) (fun h8 => ?_) (fun h8 => ?_)
                · refine gg [.tt, .tt, .tt] trivial ?_
                  refine rt (a := Res.mk Ex.ret [vb (e.owner == 0)] []) (by kernel_rfl) ?_
                  simp_all [Entity.right, beqd, bned]
                · refine gg [.ff, .ff, .ff] trivial ?_
                  refine rt (a := Res.mk Ex.ret [vb false] []) (by kernel_rfl) ?_
                  simp_all [Entity.right, beqd, bned]
              · refine gg [.ff, .ff, .ff, .ff, .ff, .ff, .ff] trivial ?_
                refine rt (a := Res.mk Ex.ret [vb false] []) (by kernel_rfl) ?_
                simp_all [Entity.right, beqd, bned]
            · refine gg [.ff, .ff, .ff, .ff, .ff, .ff, .ff, .ff, .ff, .ff, .ff] trivial ?_
              refine rt (a := Res.mk Ex.ret [vb false] []) (by kernel_rfl) ?_
              simp_all [Entity.right, beqd, bned]
          · refine gg [.ff, .ff, .ff, .ff, .ff, .ff, .ff, .ff, .ff, .ff, .ff, .ff, .ff, .ff, .ff] trivial ?_
            refine rt (a := Res.mk Ex.ret [vb false] []) (by kernel_rfl) ?_
            simp_all [Entity.right, beqd, bned]
        · refine gg [.ff, .ff, .ff, .ff, .ff, .ff, .ff, .ff, .ff, .ff, .ff, .ff, .ff, .ff, .ff, .ff] trivial ?_
          refine gg [.ff, .ff, .ff] trivial ?_
          refine rt (a := Res.mk Ex.ret [vb false] []) (by kernel_rfl) ?_
          simp_all [Entity.right, beqd, bned]
      · refine bre (x := e.kind) (y := 2) (by kernel_rfl) (fun h4 => ?_) (fun h4 => ?_)
        · refine bre (x := e.health) (y := 1) (by kernel_rfl) (fun h5 => ?_) (fun h5 => ?_)
          · refine gg [.tt, .tt, .a _ _, .tt] ⟨o_a (f_entity_pace e.vx), trivial⟩ ?_
            refine br (b := pace e.vx) (by kernel_rfl) (fun h6 => ?_) (fun h6 => ?_)
            · refine gg [.tt, .tt, .a _ _, .tt] ⟨o_a (f_entity_pace e.vy), trivial⟩ ?_
              refine br (b := pace e.vy) (by kernel_rfl) (fun h7 => ?_) (fun h7 => ?_)
              · refine gg [.tt, .tt, .tt] trivial ?_
                refine brn (x := e.vx) (y := 0) (by kernel_rfl) (fun h8 => ?_) (fun h8 => ?_)
                · refine gg [.tt, .tt, .tt, .tt, .tt, .tt, .tt, .tt, .a _ _, .tt] ⟨o_a (f_entity_within e.age 0 12), trivial⟩ ?_
                  refine br (b := within e.age 0 12) (by kernel_rfl) (fun h9 => ?_) (fun h9 => ?_)
                  · refine gg [.tt, .tt, .tt, .tt, .tt, .a _ _, .tt] ⟨o_a (f_entity_within e.owner 1 c.players), trivial⟩ ?_
                    refine rt (a := Res.mk Ex.ret [vb (within e.owner 1 c.players)] []) (by kernel_rfl) ?_
                    simp_all [Entity.right, beqd, bned]
                  · refine gg [.ff, .ff, .ff, .ff, .ff, .ff] trivial ?_
                    refine rt (a := Res.mk Ex.ret [vb false] []) (by kernel_rfl) ?_
                    simp_all [Entity.right, beqd, bned]
                · refine gg [.ff, .ff, .tt, .ff, .tt] trivial ?_
                  refine brn (x := e.vy) (y := 0) (by kernel_rfl) (fun h9 => ?_) (fun h9 => ?_)
                  · refine gg [.tt, .tt, .a _ _, .tt] ⟨o_a (f_entity_within e.age 0 12), trivial⟩ ?_
                    refine br (b := within e.age 0 12) (by kernel_rfl) (fun h10 => ?_) (fun h10 => ?_)
                    · refine gg [.tt, .tt, .tt, .tt, .tt, .a _ _, .tt] ⟨o_a (f_entity_within e.owner 1 c.players), trivial⟩ ?_
                      refine rt (a := Res.mk Ex.ret [vb (within e.owner 1 c.players)] []) (by kernel_rfl) ?_
                      simp_all [Entity.right, beqd, bned]
                    · refine gg [.ff, .ff, .ff, .ff, .ff, .ff] trivial ?_
                      refine rt (a := Res.mk Ex.ret [vb false] []) (by kernel_rfl) ?_
                      simp_all [Entity.right, beqd, bned]
                  · refine gg [.ff, .ff, .ff, .ff, .ff, .ff, .ff, .ff, .ff, .ff] trivial ?_
                    refine rt (a := Res.mk Ex.ret [vb false] []) (by kernel_rfl) ?_
                    simp_all [Entity.right, beqd, bned]
              · refine gg [.ff, .ff, .ff, .ff, .ff, .ff, .ff, .ff, .ff, .ff, .ff, .ff, .ff, .ff, .ff, .ff] trivial ?_
                refine rt (a := Res.mk Ex.ret [vb false] []) (by kernel_rfl) ?_
                simp_all [Entity.right, beqd, bned]
            · refine gg [.ff, .ff, .ff, .ff, .ff, .ff, .ff, .ff, .ff, .ff, .ff, .ff, .ff, .ff, .ff, .ff] trivial ?_
              refine gg [.ff, .ff, .ff, .ff] trivial ?_
              refine rt (a := Res.mk Ex.ret [vb false] []) (by kernel_rfl) ?_
              simp_all [Entity.right, beqd, bned]
          · refine gg [.ff, .ff, .ff, .ff, .ff, .ff, .ff, .ff, .ff, .ff, .ff, .ff, .ff, .ff, .ff, .ff] trivial ?_
            refine gg [.ff, .ff, .ff, .ff, .ff, .ff, .ff, .ff] trivial ?_
            refine rt (a := Res.mk Ex.ret [vb false] []) (by kernel_rfl) ?_
            simp_all [Entity.right, beqd, bned]
        · refine bre (x := e.kind) (y := 3) (by kernel_rfl) (fun h5 => ?_) (fun h5 => ?_)
          · refine bre (x := e.health) (y := 1) (by kernel_rfl) (fun h6 => ?_) (fun h6 => ?_)
            · refine gg [.tt, .tt, .tt] trivial ?_
              refine bre (x := e.vx) (y := 0) (by kernel_rfl) (fun h7 => ?_) (fun h7 => ?_)
              · refine gg [.tt, .tt, .tt] trivial ?_
                refine bre (x := e.vy) (y := 0) (by kernel_rfl) (fun h8 => ?_) (fun h8 => ?_)
                · refine gg [.tt, .tt, .tt] trivial ?_
                  refine bre (x := e.age) (y := 0) (by kernel_rfl) (fun h9 => ?_) (fun h9 => ?_)
                  · refine gg [.tt, .tt, .tt] trivial ?_
                    refine rt (a := Res.mk Ex.ret [vb (e.owner == 0)] []) (by kernel_rfl) ?_
                    simp_all [Entity.right, beqd, bned]
                  · refine gg [.ff, .ff, .ff] trivial ?_
                    refine rt (a := Res.mk Ex.ret [vb false] []) (by kernel_rfl) ?_
                    simp_all [Entity.right, beqd, bned]
                · refine gg [.ff, .ff, .ff, .ff, .ff, .ff, .ff] trivial ?_
                  refine rt (a := Res.mk Ex.ret [vb false] []) (by kernel_rfl) ?_
                  simp_all [Entity.right, beqd, bned]
              · refine gg [.ff, .ff, .ff, .ff, .ff, .ff, .ff, .ff, .ff, .ff, .ff] trivial ?_
                refine rt (a := Res.mk Ex.ret [vb false] []) (by kernel_rfl) ?_
                simp_all [Entity.right, beqd, bned]
            · refine gg [.ff, .ff, .ff, .ff, .ff, .ff, .ff, .ff, .ff, .ff, .ff, .ff, .ff, .ff, .ff] trivial ?_
              refine rt (a := Res.mk Ex.ret [vb false] []) (by kernel_rfl) ?_
              simp_all [Entity.right, beqd, bned]
          · refine rt (a := Res.mk Ex.ret [vb false] []) (by kernel_rfl) ?_
            simp_all [Entity.right, beqd, bned]
    · refine gg [.ff, .ff, .ff] trivial ?_
      refine bre (x := e.kind) (y := 1) (by kernel_rfl) (fun h3 => ?_) (fun h3 => ?_)
      · refine gg [.a _ _] ⟨o_a (f_entity_within e.id 1 c.players), trivial⟩ ?_
        refine br (b := within e.id 1 c.players) (by kernel_rfl) (fun h4 => ?_) (fun h4 => ?_)
        · refine gg [.tt, .tt, .a _ _, .tt] ⟨o_a (f_entity_within e.vx (-64) 64), trivial⟩ ?_
          refine br (b := within e.vx (-64) 64) (by kernel_rfl) (fun h5 => ?_) (fun h5 => ?_)
          · refine gg [.tt, .tt, .a _ _, .tt] ⟨o_a (f_entity_within e.vy (-64) 64), trivial⟩ ?_
            refine br (b := within e.vy (-64) 64) (by kernel_rfl) (fun h6 => ?_) (fun h6 => ?_)
            · refine gg [.tt, .tt, .a _ _, .tt] ⟨o_a (f_entity_within e.health 1 100), trivial⟩ ?_
              refine br (b := within e.health 1 100) (by kernel_rfl) (fun h7 => ?_) (fun h7 => ?_)
              · refine gg [.tt, .tt, .a _ _, .tt] ⟨o_a (f_entity_within e.age 0 6), trivial⟩ ?_
                refine br (b := within e.age 0 6) (by kernel_rfl) (fun h8 => ?_) (fun h8 => ?_)
                · refine gg [.tt, .tt, .tt] trivial ?_
                  refine rt (a := Res.mk Ex.ret [vb (e.owner == 0)] []) (by kernel_rfl) ?_
                  simp_all [Entity.right, beqd, bned]
                · refine gg [.ff, .ff, .ff] trivial ?_
                  refine rt (a := Res.mk Ex.ret [vb false] []) (by kernel_rfl) ?_
                  simp_all [Entity.right, beqd, bned]
              · refine gg [.ff, .ff, .ff, .ff, .ff, .ff, .ff] trivial ?_
                refine rt (a := Res.mk Ex.ret [vb false] []) (by kernel_rfl) ?_
                simp_all [Entity.right, beqd, bned]
            · refine gg [.ff, .ff, .ff, .ff, .ff, .ff, .ff, .ff, .ff, .ff, .ff] trivial ?_
              refine rt (a := Res.mk Ex.ret [vb false] []) (by kernel_rfl) ?_
              simp_all [Entity.right, beqd, bned]
          · refine gg [.ff, .ff, .ff, .ff, .ff, .ff, .ff, .ff, .ff, .ff, .ff, .ff, .ff, .ff, .ff] trivial ?_
            refine rt (a := Res.mk Ex.ret [vb false] []) (by kernel_rfl) ?_
            simp_all [Entity.right, beqd, bned]
        · refine gg [.ff, .ff, .ff, .ff, .ff, .ff, .ff, .ff, .ff, .ff, .ff, .ff, .ff, .ff, .ff, .ff] trivial ?_
          refine gg [.ff, .ff, .ff] trivial ?_
          refine rt (a := Res.mk Ex.ret [vb false] []) (by kernel_rfl) ?_
          simp_all [Entity.right, beqd, bned]
      · refine bre (x := e.kind) (y := 2) (by kernel_rfl) (fun h4 => ?_) (fun h4 => ?_)
        · refine gg [.ff, .ff, .ff, .ff, .ff, .ff, .ff, .ff, .ff, .ff, .ff, .ff, .ff, .ff, .ff, .ff] trivial ?_
          refine gg [.ff, .ff, .ff, .ff, .ff, .ff, .ff, .ff, .ff] trivial ?_
          refine rt (a := Res.mk Ex.ret [vb false] []) (by kernel_rfl) ?_
          simp_all [Entity.right, beqd, bned]
        · refine bre (x := e.kind) (y := 3) (by kernel_rfl) (fun h5 => ?_) (fun h5 => ?_)
          · refine gg [.ff, .ff, .ff, .ff, .ff, .ff, .ff, .ff, .ff, .ff, .ff, .ff, .ff, .ff, .ff, .ff] trivial ?_
            refine rt (a := Res.mk Ex.ret [vb false] []) (by kernel_rfl) ?_
            simp_all [Entity.right, beqd, bned]
          · refine rt (a := Res.mk Ex.ret [vb false] []) (by kernel_rfl) ?_
            simp_all [Entity.right, beqd, bned]
end Go.Eva.S3

/- Eva, part 46: what is put into what is sorted is sorted; what is dropped, and put again. -/
namespace Go.Eva

abbrev Srt (l : List Entity) : Prop := l.Pairwise fun a b => a.id < b.id

theorem sorted_iff : ∀ {l : List Entity}, sortedL l = true ↔ Srt l
  | [] => by simp [sortedL]
  | [a] => by simp [sortedL]
  | a :: b :: r => by
    rw [sortedL, Bool.and_eq_true, decide_eq_true_eq, @sorted_iff (b :: r), Srt, Srt, List.pairwise_cons (a := a)]
    constructor
    · rintro ⟨h1, h2⟩
      refine ⟨fun x hx => ?_, h2⟩
      rcases List.mem_cons.1 hx with rfl | hx
      · exact h1
      · have := (List.pairwise_cons.1 h2).1 x hx; omega
    · rintro ⟨h1, h2⟩
      exact ⟨h1 b (List.mem_cons_self ..), h2⟩

theorem ins_nil {e : Entity} : ins [] e = [e] := rfl
theorem ins_ge {y e : Entity} {l : List Entity} (h : e.id ≤ y.id) : ins (y :: l) e = e :: y :: l := by
  unfold ins
  rw [List.findIdx?_cons, show decide (y.id ≥ e.id) = true by simpa using h]
  rfl
theorem ins_lt {y e : Entity} {l : List Entity} (h : y.id < e.id) : ins (y :: l) e = y :: ins l e := by
  unfold ins
  rw [List.findIdx?_cons, show decide (y.id ≥ e.id) = false by simpa using h]
  cases l.findIdx? fun x => decide (x.id ≥ e.id) <;> simp
theorem ins_mem {e x : Entity} : ∀ {l : List Entity}, x ∈ ins l e ↔ x = e ∨ x ∈ l
  | [] => by simp [ins_nil]
  | y :: l => by
    rcases Int.lt_or_le y.id e.id with h | h
    · rw [ins_lt h, List.mem_cons, ins_mem, List.mem_cons]
      constructor <;> (intro h; rcases h with h | h | h <;> simp [h])
    · rw [ins_ge h]; simp
theorem ins_sorted {e : Entity} : ∀ {l : List Entity}, Srt l → (∀ x ∈ l, x.id ≠ e.id) → Srt (ins l e)
  | [], _, _ => by simp [ins_nil, Srt]
  | y :: l, h, hne => by
    obtain ⟨h1, h2⟩ := List.pairwise_cons.1 h
    rcases Int.lt_or_le y.id e.id with hy | hy
    · rw [ins_lt hy]
      refine List.pairwise_cons.2 ⟨fun x hx => ?_, ins_sorted h2 fun x hx => hne x (List.mem_cons_of_mem _ hx)⟩
      rcases ins_mem.1 hx with rfl | hx
      · exact hy
      · exact h1 x hx
    · rw [ins_ge hy]
      have hyy := hne y (List.mem_cons_self ..)
      refine List.pairwise_cons.2 ⟨fun x hx => ?_, h⟩
      rcases List.mem_cons.1 hx with rfl | hx
      · omega
      · have := h1 x hx; omega

theorem no_id {l : List Entity} {id : Int} (h : l.findIdx? (fun x => x.id == id) = none) : ∀ x ∈ l, x.id ≠ id := by
  intro x hx
  have := List.findIdx?_eq_none_iff.1 h x hx
  simpa using this
theorem an_id [Inhabited Entity] {l : List Entity} {id : Int} {k : Nat} (h : l.findIdx? (fun x => x.id == id) = some k) : k < l.length ∧ (gt l k).id = id ∧ gt l k ∈ l := by
  obtain ⟨hk, h1, _⟩ := List.findIdx?_eq_some_iff_getElem.1 h
  exact ⟨hk, by rw [gt_eq hk]; simpa using h1, gt_mem hk⟩
theorem put1_sorted {l : List Entity} {e : Entity} (h : Srt l) : Srt (put1 l e) := by
  unfold put1
  split
  · exact h
  · rename_i hq; exact ins_sorted h (no_id hq)
theorem put1_sub {l : List Entity} {e : Entity} : ∀ x ∈ l, x ∈ put1 l e := by
  intro x hx
  unfold put1
  split
  · exact hx
  · exact ins_mem.2 (.inr hx)
theorem has_find {l : List Entity} {id : Int} (h : ∃ x ∈ l, x.id = id) : ∃ k : Nat, l.findIdx? (fun x => x.id == id) = some k := by
  cases hq : l.findIdx? fun x => x.id == id with
  | some k => exact ⟨k, rfl⟩
  | none =>
    obtain ⟨x, hx, he⟩ := h
    exact absurd he (no_id hq x hx)
theorem things_players {l : List Entity} : (l.countP fun e => e.kind != 1) + (l.countP fun e => e.kind == 1) = l.length := by
  induction l with
  | nil => rfl
  | cons e l ih =>
    simp only [List.countP_cons, List.length_cons]
    by_cases h : e.kind = 1
    · simp [h]; omega
    · simp [h]; omega

theorem drop_drop {l : List Entity} {id : Int} : drops (drops l [id]) [id, id] = drops l [id] := by
  unfold drops
  rw [List.filter_filter]
  congr 1
  funext x
  simp [has]
end Go.Eva

/- Eva, part 48: arenas that statements are about. -/
namespace Go.Eva

def u1 (n k : Int) : Int := 1 + (IntKind.u64.wrap n).tmod k
/-- The arena that a statement makes of any one. -/
def Config.play (c : Config) : Config := if c.right = true ∧ c.cols ≤ 3 ∧ c.rows ≤ 3 ∧ c.players ≤ 4 then c else ⟨u1 c.cols 3, u1 c.rows 3, u1 c.players 4, u1 c.window 8, c.seed⟩

theorem u64_nonneg {n : Int} : 0 ≤ IntKind.u64.wrap n := by simp [IntKind.wrap, IntKind.bits, IntKind.signed]; omega
theorem u64_tmod {n k : Int} (hk : 0 < k) : 0 ≤ (IntKind.u64.wrap n).tmod k ∧ (IntKind.u64.wrap n).tmod k < k := tmod_le hk u64_nonneg
theorem Config.play_ok {c : Config} : c.play.right = true ∧ (1 ≤ c.play.cols ∧ c.play.cols ≤ 3) ∧ (1 ≤ c.play.rows ∧ c.play.rows ≤ 3) ∧ (1 ≤ c.play.players ∧ c.play.players ≤ 4) ∧ 1 ≤ c.play.window ∧ c.play.window ≤ 16 := by
  unfold Config.play
  split
  · rename_i h
    have := Config.right_iff.1 h.1
    exact ⟨h.1, by omega, by omega, by omega, by omega⟩
  · have h1 := @u64_tmod c.cols 3 (by decide)
    have h2 := @u64_tmod c.rows 3 (by decide)
    have h3 := @u64_tmod c.players 4 (by decide)
    have h4 := @u64_tmod c.window 8 (by decide)
    simp only [Config.right_iff, u1]
    omega
theorem Config.grid_of {c : Config} (h : c.right = true) : c.grid = c := by simp [Config.grid, h]
theorem Config.err_of {c : Config} (h : c.right = true) : c.err = 0 := by simp [Config.err, h]
end Go.Eva

/- Eva, part 49: messages, in plain words. -/
namespace Go.Eva

def cmpI (x y : Int) : Int := if x < y then -1 else if x > y then 1 else 0
def orI : List Int → Int
  | [] => 0
  | x :: r => if x ≠ 0 then x else orI r
def Cross.cmp (a b : Cross) : Int :=
  if orI [cmpI a.to b.to, cmpI a.kind b.kind] ≠ 0 then orI [cmpI a.to b.to, cmpI a.kind b.kind]
  else if a.kind = 1 then cmpI a.ent.id b.ent.id
  else orI [cmpI a.x b.x, cmpI a.y b.y]
def Cross.less (a b : Cross) : Bool := decide (a.cmp b < 0)
def toL (l : List Cross) (r : Int) : List Cross := l.filter fun c => decide (c.to = r)

theorem cmpI_neg {x y : Int} : cmpI x y < 0 ↔ x < y := by unfold cmpI; split <;> (try split) <;> omega
theorem cmpI_zero {x y : Int} : cmpI x y = 0 ↔ x = y := by unfold cmpI; split <;> (try split) <;> omega
theorem orI_neg {x y : Int} : orI [x, y] < 0 ↔ x < 0 ∨ x = 0 ∧ y < 0 := by unfold orI orI orI; split <;> (try split) <;> omega
theorem orI_zero {x y : Int} : orI [x, y] = 0 ↔ x = 0 ∧ y = 0 := by unfold orI orI orI; split <;> (try split) <;> omega
theorem less_iff {a b : Cross} : a.less b = true ↔ (a.to < b.to ∨ a.to = b.to ∧ (a.kind < b.kind ∨ a.kind = b.kind ∧ (a.kind = 1 ∧ a.ent.id < b.ent.id ∨ a.kind ≠ 1 ∧ (a.x < b.x ∨ a.x = b.x ∧ a.y < b.y)))) := by
  unfold Cross.less Cross.cmp
  rw [decide_eq_true_eq]
  split
  · rename_i h
    rw [Ne, orI_zero, cmpI_zero, cmpI_zero] at h
    rw [orI_neg, cmpI_neg, cmpI_neg, cmpI_zero]
    omega
  · rename_i h
    rw [Ne, orI_zero, cmpI_zero, cmpI_zero] at h
    split
    · rw [cmpI_neg]; omega
    · rw [orI_neg, cmpI_neg, cmpI_neg, cmpI_zero]; omega
end Go.Eva

/- Eva, part 51: sorting that keeps what is alike in order; in plain lists. -/
namespace Go.Eva

/-- A strict weak order. -/
structure Swo {α : Type} (lt : α → α → Bool) : Prop where
  asymm : ∀ {x y}, lt x y = true → lt y x = false
  ntrans : ∀ {x y z}, lt x y = false → lt y z = false → lt x z = false

section
variable {α : Type} {lt : α → α → Bool}

abbrev Sd (lt : α → α → Bool) (l : List α) : Prop := l.Pairwise fun a b => lt b a = false
def eqv (lt : α → α → Bool) (x y : α) : Bool := !lt x y && !lt y x
/-- The same, as far as what is alike stays in order. -/
def StEq (lt : α → α → Bool) (s l : List α) : Prop := ∀ x, s.filter (eqv lt x) = l.filter (eqv lt x)

theorem Swo.irr (h : Swo lt) (x : α) : lt x x = false := by
  cases hx : lt x x with
  | false => rfl
  | true => exact absurd (h.asymm hx) (by rw [hx]; simp)
theorem Swo.trans (h : Swo lt) {x y z : α} (h1 : lt x y = true) (h2 : lt y z = true) : lt x z = true := by
  cases hx : lt x z with
  | true => rfl
  | false =>
    have := h.ntrans hx (h.asymm h2)
    rw [h1] at this
    contradiction
/-- lt x y, y ≤ z -/
theorem Swo.lt_le (h : Swo lt) {x y z : α} (h1 : lt x y = true) (h2 : lt z y = false) : lt x z = true := by
  cases hx : lt x z with
  | true => rfl
  | false => exact absurd (h.ntrans hx h2) (by rw [h1]; simp)
theorem Swo.le_lt (h : Swo lt) {x y z : α} (h1 : lt y x = false) (h2 : lt y z = true) : lt x z = true := by
  cases hx : lt x z with
  | true => rfl
  | false => exact absurd (h.ntrans h1 hx) (by rw [h2]; simp)
theorem eqv_self (h : Swo lt) (x : α) : eqv lt x x = true := by simp [eqv, h.irr x]

theorem StEq.refl (l : List α) : StEq lt l l := fun _ => rfl
theorem StEq.symm {s l : List α} (h : StEq lt s l) : StEq lt l s := fun x => (h x).symm
theorem StEq.trans {s l m : List α} (h : StEq lt s l) (k : StEq lt l m) : StEq lt s m := fun x => (h x).trans (k x)
theorem StEq.append {s l s' l' : List α} (h : StEq lt s l) (k : StEq lt s' l') : StEq lt (s ++ s') (l ++ l') := fun x => by rw [List.filter_append, List.filter_append, h x, k x]
theorem StEq.nil {s : List α} (hw : Swo lt) (h : StEq lt s []) : s = [] := by
  cases s with
  | nil => rfl
  | cons x s =>
    have := h x
    rw [List.filter_cons, if_pos (eqv_self hw x)] at this
    simp at this
theorem StEq.mem {s l : List α} (hw : Swo lt) (h : StEq lt s l) {x : α} (hx : x ∈ s) : x ∈ l := by
  have : x ∈ s.filter (eqv lt x) := List.mem_filter.2 ⟨hx, eqv_self hw x⟩
  rw [h x] at this
  exact (List.mem_filter.1 this).1

/-- What is sorted, and keeps what is alike in order, is one list. -/
theorem uniq (hw : Swo lt) : ∀ {s t : List α}, Sd lt s → Sd lt t → StEq lt s t → s = t
  | [], t, _, _, h => (h.symm.nil hw).symm
  | x :: s, [], _, _, h => h.nil hw
  | x :: s, y :: t, hs, ht, h => by
    have hx : x ∈ y :: t := h.mem hw (List.mem_cons_self ..)
    have hy : y ∈ x :: s := h.symm.mem hw (List.mem_cons_self ..)
    obtain ⟨h1, h2⟩ := List.pairwise_cons.1 hs
    obtain ⟨h3, h4⟩ := List.pairwise_cons.1 ht
    have e1 : lt x y = false := by
      rcases List.mem_cons.1 hx with rfl | hx
      · exact hw.irr _
      · exact h3 x hx
    have e2 : lt y x = false := by
      rcases List.mem_cons.1 hy with rfl | hy
      · exact hw.irr _
      · exact h1 y hy
    have e3 : eqv lt x y = true := by simp [eqv, e1, e2]
    have := h x
    rw [List.filter_cons, if_pos (eqv_self hw x), List.filter_cons, if_pos e3] at this
    obtain ⟨rfl, _⟩ := List.cons.inj this
    have h5 : StEq lt s t := by
      intro z
      have := h z
      rw [List.filter_cons, List.filter_cons] at this
      split at this
      · exact (List.cons.inj this).2
      · exact this
    rw [uniq hw h2 h4 h5]

/-- What is less moves ahead. -/
theorem StEq.swap (hw : Swo lt) {u v : List α} (h : ∀ x ∈ v, ∀ y ∈ u, lt x y = true) : StEq lt (u ++ v) (v ++ u) := by
  intro z
  rw [List.filter_append, List.filter_append]
  by_cases hu : ∃ y ∈ u, eqv lt z y = true
  · obtain ⟨y, hy, hzy⟩ := hu
    have : v.filter (eqv lt z) = [] := by
      rw [List.filter_eq_nil_iff]
      intro x hx hzx
      have hxy := h x hx y hy
      simp only [eqv, Bool.and_eq_true, Bool.not_eq_true'] at hzy hzx
      have := hw.ntrans hzx.2 hzy.1
      rw [hxy] at this
      contradiction
    rw [this]; simp
  · have : u.filter (eqv lt z) = [] := by
      rw [List.filter_eq_nil_iff]
      intro y hy hzy
      exact hu ⟨y, hy, hzy⟩
    rw [this]; simp

/-- One is put behind all that it is not less than. -/
def insS (lt : α → α → Bool) : List α → α → List α
  | [], x => [x]
  | y :: l, x => match lt x y with
    | true => x :: y :: l
    | false => y :: insS lt l x
def sortS (lt : α → α → Bool) (l : List α) : List α := l.foldl (insS lt) []

theorem insS_mem {x z : α} : ∀ {l : List α}, z ∈ insS lt l x ↔ z = x ∨ z ∈ l
  | [] => by simp [insS]
  | y :: l => by
    simp only [insS]
    cases lt x y with
    | true => simp
    | false =>
      simp only [List.mem_cons, insS_mem]
      constructor <;> (intro h; rcases h with h | h | h <;> simp [h])
theorem insS_sd (hw : Swo lt) {x : α} : ∀ {l : List α}, Sd lt l → Sd lt (insS lt l x)
  | [], _ => by simp [insS, Sd]
  | y :: l, h => by
    obtain ⟨h1, h2⟩ := List.pairwise_cons.1 h
    simp only [insS]
    cases hxy : lt x y with
    | true =>
      refine List.pairwise_cons.2 ⟨fun z hz => ?_, h⟩
      rcases List.mem_cons.1 hz with rfl | hz
      · exact hw.asymm hxy
      · exact hw.ntrans (h1 z hz) (hw.asymm hxy)
    | false =>
      refine List.pairwise_cons.2 ⟨fun z hz => ?_, insS_sd hw h2⟩
      rcases insS_mem.1 hz with rfl | hz
      · exact hxy
      · exact h1 z hz
theorem insS_st (hw : Swo lt) {x : α} : ∀ {l : List α}, Sd lt l → StEq lt (insS lt l x) (l ++ [x])
  | [], _ => .refl _
  | y :: l, h => by
    obtain ⟨h1, h2⟩ := List.pairwise_cons.1 h
    simp only [insS]
    cases hxy : lt x y with
    | true =>
      have : StEq lt ((y :: l) ++ [x]) ([x] ++ (y :: l)) := .swap hw fun a ha b hb => by
        simp at ha; subst ha
        rcases List.mem_cons.1 hb with rfl | hb
        · exact hxy
        · exact hw.lt_le hxy (h1 b hb)
      exact this.symm
    | false => exact StEq.append (s := [y]) (l := [y]) (.refl _) (insS_st hw h2)
theorem foldl_sd (hw : Swo lt) : ∀ {l acc : List α}, Sd lt acc → Sd lt (l.foldl (insS lt) acc) ∧ StEq lt (l.foldl (insS lt) acc) (acc ++ l)
  | [], acc, h => ⟨h, by simpa using StEq.refl acc⟩
  | x :: l, acc, h => by
    obtain ⟨h1, h2⟩ := foldl_sd hw (l := l) (insS_sd hw (x := x) h)
    refine ⟨h1, h2.trans ?_⟩
    have := StEq.append (insS_st hw (x := x) h) (StEq.refl (lt := lt) l)
    simpa using this
theorem sortS_sd (hw : Swo lt) (l : List α) : Sd lt (sortS lt l) := (foldl_sd hw (by simp [Sd])).1
theorem sortS_st (hw : Swo lt) (l : List α) : StEq lt (sortS lt l) l := by
  have := (foldl_sd hw (l := l) (acc := []) (by simp [Sd])).2
  simpa [sortS] using this
/-- What is sorted, and the same as a list, is that list sorted. -/
theorem sortS_eq (hw : Swo lt) {s l : List α} (h : Sd lt s) (k : StEq lt s l) : s = sortS lt l := uniq hw h (sortS_sd hw l) (k.trans (sortS_st hw l).symm)
theorem StEq.len (hw : Swo lt) : ∀ {s l : List α}, Sd lt s → StEq lt s l → s.length = l.length := by
  intro s l hs h
  rw [sortS_eq hw hs h]
  have : ∀ (l acc : List α), (l.foldl (insS lt) acc).length = acc.length + l.length := by
    intro l
    induction l with
    | nil => simp
    | cons x l ih =>
      intro acc
      have : ∀ acc : List α, (insS lt acc x).length = acc.length + 1 := by
        intro acc
        induction acc with
        | nil => rfl
        | cons y acc ih => simp only [insS]; cases lt x y <;> simp [ih]
      simp [ih, this]; omega
  simpa [sortS] using this l []
theorem sortS_len (hw : Swo lt) (l : List α) : (sortS lt l).length = l.length := StEq.len hw (sortS_sd hw l) (sortS_st hw l)
theorem sortS_self (hw : Swo lt) {l : List α} (h : Sd lt l) : sortS lt l = l := (sortS_eq hw h (.refl l)).symm
/-- Two sorted halves, parted rightly. -/
theorem sortS_parts (hw : Swo lt) {u1 u2 v1 v2 : List α} (h1 : ∀ x ∈ v1, ∀ y ∈ u2, lt x y = true) (h2 : ∀ x ∈ u1 ++ v1, ∀ y ∈ u2 ++ v2, lt y x = false) :
    sortS lt (u1 ++ v1) ++ sortS lt (u2 ++ v2) = sortS lt ((u1 ++ u2) ++ (v1 ++ v2)) := by
  refine sortS_eq hw ?_ ?_
  · refine List.pairwise_append.2 ⟨sortS_sd hw _, sortS_sd hw _, fun x hx y hy => ?_⟩
    exact h2 x ((sortS_st hw _).mem hw hx) y ((sortS_st hw _).mem hw hy)
  · refine ((sortS_st hw _).append (sortS_st hw _)).trans ?_
    have h3 : StEq lt (v1 ++ u2) (u2 ++ v1) := (StEq.swap hw h1).symm
    have := ((StEq.refl (lt := lt) u1).append h3).append (StEq.refl v2)
    simpa [List.append_assoc] using this
end
end Go.Eva

/- Eva, part 52: how rows are turned and searched; in plain lists. -/
namespace Go.Eva

theorem less_swo : Swo Cross.less := by
  refine ⟨fun {x y} h => ?_, fun {x y z} h k => ?_⟩
  · rw [less_iff] at h
    rw [← Bool.not_eq_true, less_iff]
    omega
  · rw [← Bool.not_eq_true, less_iff] at *
    omega

theorem Cross_swo : Swo Cross.less := less_swo
def Entity.cmp (a b : Entity) : Int := cmpI a.id b.id
def Entity.less (a b : Entity) : Bool := decide (a.cmp b < 0)
theorem eless_iff {a b : Entity} : a.less b = true ↔ a.id < b.id := by
  unfold Entity.less Entity.cmp
  rw [decide_eq_true_eq, cmpI_neg]
theorem Entity_swo : Swo Entity.less := by
  refine ⟨fun {x y} h => ?_, fun {x y z} h k => ?_⟩
  · rw [eless_iff] at h
    rw [← Bool.not_eq_true, eless_iff]
    omega
  · rw [← Bool.not_eq_true, eless_iff] at *
    omega

/-- The first place from 'i' on, below 'j', at which it does not hold. -/
def bs (P : Nat → Bool) : Nat → Nat → Nat → Nat
  | 0, i, _ => i
  | d + 1, i, j => if i < j then (match P ((i + j) / 2) with | true => bs P d ((i + j) / 2 + 1) j | false => bs P d i ((i + j) / 2)) else i

theorem bs_ok {P : Nat → Bool} : ∀ {d i j : Nat}, i ≤ j → j ≤ i + d → (∀ h h', i ≤ h → h ≤ h' → h' < j → P h' = true → P h = true) →
    i ≤ bs P d i j ∧ bs P d i j ≤ j ∧ (∀ h, i ≤ h → h < bs P d i j → P h = true) ∧ (∀ h, bs P d i j ≤ h → h < j → P h = false)
  | 0, i, j, h1, h2, _ => by
    simp only [bs]
    exact ⟨Nat.le_refl _, h1, fun h a b => by omega, fun h a b => by omega⟩
  | d + 1, i, j, h1, h2, hm => by
    simp only [bs]
    by_cases hij : i < j
    · rw [if_pos hij]
      have hh : i ≤ (i + j) / 2 ∧ (i + j) / 2 < j := by omega
      cases hp : P ((i + j) / 2) with
      | true =>
        simp only
        obtain ⟨k1, k2, k3, k4⟩ := bs_ok (P := P) (d := d) (i := (i + j) / 2 + 1) (j := j) (by omega) (by omega) (fun h h' a b c e => hm h h' (by omega) b c e)
        refine ⟨by omega, k2, fun h a b => ?_, k4⟩
        by_cases hc : h ≤ (i + j) / 2
        · exact hm h _ a hc hh.2 hp
        · exact k3 h (by omega) b
      | false =>
        simp only
        obtain ⟨k1, k2, k3, k4⟩ := bs_ok (P := P) (d := d) (i := i) (j := (i + j) / 2) (by omega) (by omega) (fun h h' a b c e => hm h h' a b (by omega) e)
        refine ⟨k1, by omega, k3, fun h a b => ?_⟩
        by_cases hc : h < (i + j) / 2
        · exact k4 h a hc
        · cases hq : P h with
          | false => rfl
          | true =>
            have := hm _ h hh.1 (by omega) b hq
            rw [hp] at this
            contradiction
    · rw [if_neg hij]
      exact ⟨Nat.le_refl _, h1, fun h a b => by omega, fun h a b => by omega⟩

section
variable {α : Type} [Inhabited α]

/-- Two members change places. -/
def sw (A : List α) (i j : Nat) : List α := (A.set i (gt A j)).set j (gt A i)

theorem sw_len (A : List α) (i j : Nat) : (sw A i j).length = A.length := by simp [sw]
theorem gt_set {A : List α} {i k : Nat} {x : α} (h : i < A.length) : gt (A.set i x) k = if k = i then x else gt A k := by
  unfold gt
  rw [List.getElem?_set]
  by_cases hk : i = k
  · subst hk; simp [h]
  · simp [hk, show ¬ k = i by omega]
theorem gt_sw {A : List α} {i j k : Nat} (hi : i < A.length) (hj : j < A.length) : gt (sw A i j) k = if k = j then gt A i else if k = i then gt A j else gt A k := by
  unfold sw
  rw [gt_set (by simpa using hj), gt_set hi]
theorem list_gt {A B : List α} (h : A.length = B.length) (k : ∀ i, i < A.length → gt A i = gt B i) : A = B := by
  apply List.ext_getElem h
  intro i h1 h2
  have := k i h1
  rwa [gt_eq h1, gt_eq h2] at this
theorem gt_app {A B : List α} {i : Nat} : gt (A ++ B) i = if i < A.length then gt A i else gt B (i - A.length) := by
  unfold gt
  rw [List.getElem?_append]
  split <;> rfl

/-- Members change places, 'n' of them. -/
def swR : Nat → List α → Nat → Nat → List α
  | 0, A, _, _ => A
  | n + 1, A, a, b => swR n (sw A a b) (a + 1) (b + 1)
theorem swR_len : ∀ (n : Nat) (A : List α) (a b : Nat), (swR n A a b).length = A.length
  | 0, _, _, _ => rfl
  | n + 1, A, a, b => by rw [swR, swR_len, sw_len]
theorem gt_swR : ∀ {n : Nat} {A : List α} {a b k : Nat}, a + n ≤ b → b + n ≤ A.length →
    gt (swR n A a b) k = if a ≤ k ∧ k < a + n then gt A (b + (k - a)) else if b ≤ k ∧ k < b + n then gt A (a + (k - b)) else gt A k
  | 0, A, a, b, k, _, _ => by
    simp only [swR]
    rw [if_neg (by omega), if_neg (by omega)]
  | n + 1, A, a, b, k, h1, h2 => by
    rw [swR, gt_swR (by omega) (by rw [sw_len]; omega)]
    have g := fun k => gt_sw (A := A) (i := a) (j := b) (k := k) (by omega) (by omega)
    rw [g, g, g]
    repeat' split
    all_goals first | omega | rfl | (congr 1 <;> omega)
theorem swR_eq {P X M Y Q : List α} (h : X.length = Y.length) : swR X.length (P ++ X ++ M ++ Y ++ Q) P.length (P.length + X.length + M.length) = P ++ Y ++ M ++ X ++ Q := by
  refine list_gt (by rw [swR_len]; simp; omega) fun k hk => ?_
  rw [gt_swR (by omega) (by simp; omega)]
  simp only [gt_app, List.length_append]
  repeat' split
  all_goals first | omega | rfl | (congr 1 <;> omega)

/-- One moves up to a place; down to a place. -/
def up : Nat → List α → Nat → List α
  | 0, A, _ => A
  | n + 1, A, k => up n (sw A k (k + 1)) (k + 1)
theorem up_eq {Q : List α} {x : α} : ∀ {V : List α} {P : List α}, up V.length (P ++ x :: V ++ Q) P.length = P ++ V ++ x :: Q
  | [], P => by simp [up]
  | y :: V, P => by
    rw [List.length_cons, up]
    have e : sw (P ++ x :: y :: V ++ Q) P.length (P.length + 1) = (P ++ [y]) ++ x :: V ++ Q := by
      refine list_gt (by rw [sw_len]; simp) fun k hk => ?_
      rw [gt_sw (by simp) (by simp)]
      have g0 : gt (P ++ x :: y :: V ++ Q) P.length = x := by unfold gt; simp
      have g1 : gt (P ++ x :: y :: V ++ Q) (P.length + 1) = y := by unfold gt; simp
      rw [g0, g1]
      unfold gt
      rcases Nat.lt_trichotomy k P.length with h | h | h
      · rw [if_neg (by omega), if_neg (by omega)]
        rw [List.append_assoc, List.append_assoc, List.append_assoc, List.getElem?_append_left h, List.getElem?_append_left h]
      · subst h; simp
      · by_cases h1 : k = P.length + 1
        · subst h1; simp
        · rw [if_neg h1, if_neg (by omega)]
          obtain ⟨j, rfl⟩ : ∃ j, k = P.length + (j + 2) := ⟨k - P.length - 2, by omega⟩
          simp [List.getElem?_append_right]
    rw [e]
    have := up_eq (Q := Q) (x := x) (V := V) (P := P ++ [y])
    simp only [List.length_append, List.length_cons, List.length_nil, Nat.zero_add] at this
    exact this.trans (by simp)
def down : Nat → List α → Nat → List α
  | 0, A, _ => A
  | n + 1, A, k => down n (sw A k (k - 1)) (k - 1)
end
end Go.Eva

/- Messages: which stands ahead; those that go somewhere. -/
namespace Go.Eva.S3
theorem f_joustplay_Config (c : Config) : Fn cx 16 [c.enc] c.play.enc := by
  have k1 := @u64_tmod c.cols 3 (by decide)
  have k2 := @u64_tmod c.rows 3 (by decide)
  have k3 := @u64_tmod c.players 4 (by decide)
  have k4 := @u64_tmod c.window 8 (by decide)
  refine Wp.ev ?_
  refine gg [.a _ _] ⟨o_a (f_joustref03_Right c), trivial⟩ ?_
  refine br (b := Config.right c) (by kernel_rfl) (fun h1 => ?_) (fun h1 => ?_)
  · refine gg [.tt, .tt, .tt] trivial ?_
    refine brp (p := c.cols ≤ 3) (by kernel_rfl) (fun h2 => ?_) (fun h2 => ?_)
    · refine gg [.tt, .tt, .tt] trivial ?_
      refine brp (p := c.rows ≤ 3) (by kernel_rfl) (fun h3 => ?_) (fun h3 => ?_)
      · refine gg [.tt, .tt, .tt] trivial ?_
        refine brp (p := c.players ≤ 4) (by kernel_rfl) (fun h4 => ?_) (fun h4 => ?_)
        · refine rt (a := Res.mk Ex.ret [V.t (Config.enc c)] []) (by kernel_rfl) ?_
          (unfold Config.play; first | (rw [if_pos (by simp_all)]; done) | (rw [if_pos (by simp_all)]; rfl) | (rw [if_neg (by rintro ⟨q1, q2, q3, q4⟩; simp_all; try omega)]; simp [Config.enc, u1]; done))
        · refine gg [.i IntKind.u64 c.cols (IntKind.wrap IntKind.u64 c.cols), .w ((3 : Int) ≠ (0 : Int)), .s (T.int IntKind.u64 (Int.tmod (IntKind.wrap IntKind.u64 c.cols) 3)), .i IntKind.i64 (Int.tmod (IntKind.wrap IntKind.u64 c.cols) 3) (Int.tmod (IntKind.wrap IntKind.u64 c.cols) 3), .i IntKind.i64 (1 + Int.tmod (IntKind.wrap IntKind.u64 c.cols) 3) (1 + Int.tmod (IntKind.wrap IntKind.u64 c.cols) 3), .i IntKind.u64 c.rows (IntKind.wrap IntKind.u64 c.rows), .w ((3 : Int) ≠ (0 : Int)), .s (T.int IntKind.u64 (Int.tmod (IntKind.wrap IntKind.u64 c.rows) 3)), .i IntKind.i64 (Int.tmod (IntKind.wrap IntKind.u64 c.rows) 3) (Int.tmod (IntKind.wrap IntKind.u64 c.rows) 3), .i IntKind.i64 (1 + Int.tmod (IntKind.wrap IntKind.u64 c.rows) 3) (1 + Int.tmod (IntKind.wrap IntKind.u64 c.rows) 3), .i IntKind.u64 c.players (IntKind.wrap IntKind.u64 c.players), .w ((4 : Int) ≠ (0 : Int)), .s (T.int IntKind.u64 (Int.tmod (IntKind.wrap IntKind.u64 c.players) 4)), .i IntKind.i64 (Int.tmod (IntKind.wrap IntKind.u64 c.players) 4) (Int.tmod (IntKind.wrap IntKind.u64 c.players) 4), .i IntKind.i64 (1 + Int.tmod (IntKind.wrap IntKind.u64 c.players) 4) (1 + Int.tmod (IntKind.wrap IntKind.u64 c.players) 4), .i IntKind.u64 c.window (IntKind.wrap IntKind.u64 c.window)] ⟨o_i rfl, o_w (by intro h; cases h), oI, oI, o_i rfl, o_w (by intro h; cases h), oI, oI, o_i rfl, o_w (by intro h; cases h), oI, oI, o_i rfl, trivial⟩ ?_
          refine gg [.w ((8 : Int) ≠ (0 : Int)), .s (T.int IntKind.u64 (Int.tmod (IntKind.wrap IntKind.u64 c.window) 8)), .i IntKind.i64 (Int.tmod (IntKind.wrap IntKind.u64 c.window) 8) (Int.tmod (IntKind.wrap IntKind.u64 c.window) 8), .i IntKind.i64 (1 + Int.tmod (IntKind.wrap IntKind.u64 c.window) 8) (1 + Int.tmod (IntKind.wrap IntKind.u64 c.window) 8)] ⟨o_w (by intro h; cases h), oI, oI, trivial⟩ ?_
          refine rt (a := Res.mk Ex.ret [V.t (T.agg [ti (1 + Int.tmod (IntKind.wrap IntKind.u64 c.cols) 3), ti (1 + Int.tmod (IntKind.wrap IntKind.u64 c.rows) 3), ti (1 + Int.tmod (IntKind.wrap IntKind.u64 c.players) 4), ti (1 + Int.tmod (IntKind.wrap IntKind.u64 c.window) 8), T.int IntKind.u64 c.seed])] []) (by kernel_rfl) ?_
          (unfold Config.play; first | (rw [if_pos (by simp_all)]; done) | (rw [if_pos (by simp_all)]; rfl) | (rw [if_neg (by rintro ⟨q1, q2, q3, q4⟩; simp_all; try omega)]; simp [Config.enc, u1]; done))
      · refine gg [.ff, .ff, .ff, .ff, .i IntKind.u64 c.cols (IntKind.wrap IntKind.u64 c.cols), .w ((3 : Int) ≠ (0 : Int)), .s (T.int IntKind.u64 (Int.tmod (IntKind.wrap IntKind.u64 c.cols) 3)), .i IntKind.i64 (Int.tmod (IntKind.wrap IntKind.u64 c.cols) 3) (Int.tmod (IntKind.wrap IntKind.u64 c.cols) 3), .i IntKind.i64 (1 + Int.tmod (IntKind.wrap IntKind.u64 c.cols) 3) (1 + Int.tmod (IntKind.wrap IntKind.u64 c.cols) 3), .i IntKind.u64 c.rows (IntKind.wrap IntKind.u64 c.rows), .w ((3 : Int) ≠ (0 : Int)), .s (T.int IntKind.u64 (Int.tmod (IntKind.wrap IntKind.u64 c.rows) 3)), .i IntKind.i64 (Int.tmod (IntKind.wrap IntKind.u64 c.rows) 3) (Int.tmod (IntKind.wrap IntKind.u64 c.rows) 3), .i IntKind.i64 (1 + Int.tmod (IntKind.wrap IntKind.u64 c.rows) 3) (1 + Int.tmod (IntKind.wrap IntKind.u64 c.rows) 3), .i IntKind.u64 c.players (IntKind.wrap IntKind.u64 c.players), .w ((4 : Int) ≠ (0 : Int))] ⟨o_i rfl, o_w (by intro h; cases h), oI, oI, o_i rfl, o_w (by intro h; cases h), oI, oI, o_i rfl, o_w (by intro h; cases h), trivial⟩ ?_
        refine gg [.s (T.int IntKind.u64 (Int.tmod (IntKind.wrap IntKind.u64 c.players) 4)), .i IntKind.i64 (Int.tmod (IntKind.wrap IntKind.u64 c.players) 4) (Int.tmod (IntKind.wrap IntKind.u64 c.players) 4), .i IntKind.i64 (1 + Int.tmod (IntKind.wrap IntKind.u64 c.players) 4) (1 + Int.tmod (IntKind.wrap IntKind.u64 c.players) 4), .i IntKind.u64 c.window (IntKind.wrap IntKind.u64 c.window), .w ((8 : Int) ≠ (0 : Int)), .s (T.int IntKind.u64 (Int.tmod (IntKind.wrap IntKind.u64 c.window) 8)), .i IntKind.i64 (Int.tmod (IntKind.wrap IntKind.u64 c.window) 8) (Int.tmod (IntKind.wrap IntKind.u64 c.window) 8), .i IntKind.i64 (1 + Int.tmod (IntKind.wrap IntKind.u64 c.window) 8) (1 + Int.tmod (IntKind.wrap IntKind.u64 c.window) 8)] ⟨oI, oI, o_i rfl, o_w (by intro h; cases h), oI, oI, trivial⟩ ?_
        refine rt (a := Res.mk Ex.ret [V.t (T.agg [ti (1 + Int.tmod (IntKind.wrap IntKind.u64 c.cols) 3), ti (1 + Int.tmod (IntKind.wrap IntKind.u64 c.rows) 3), ti (1 + Int.tmod (IntKind.wrap IntKind.u64 c.players) 4), ti (1 + Int.tmod (IntKind.wrap IntKind.u64 c.window) 8), T.int IntKind.u64 c.seed])] []) (by kernel_rfl) ?_
        (unfold Config.play; first | (rw [if_pos (by simp_all)]; done) | (rw [if_pos (by simp_all)]; rfl) | (rw [if_neg (by rintro ⟨q1, q2, q3, q4⟩; simp_all; try omega)]; simp [Config.enc, u1]; done))
    · refine gg [.ff, .ff, .ff, .ff, .ff, .ff, .ff, .ff, .i IntKind.u64 c.cols (IntKind.wrap IntKind.u64 c.cols), .w ((3 : Int) ≠ (0 : Int)), .s (T.int IntKind.u64 (Int.tmod (IntKind.wrap IntKind.u64 c.cols) 3)), .i IntKind.i64 (Int.tmod (IntKind.wrap IntKind.u64 c.cols) 3) (Int.tmod (IntKind.wrap IntKind.u64 c.cols) 3), .i IntKind.i64 (1 + Int.tmod (IntKind.wrap IntKind.u64 c.cols) 3) (1 + Int.tmod (IntKind.wrap IntKind.u64 c.cols) 3), .i IntKind.u64 c.rows (IntKind.wrap IntKind.u64 c.rows), .w ((3 : Int) ≠ (0 : Int)), .s (T.int IntKind.u64 (Int.tmod (IntKind.wrap IntKind.u64 c.rows) 3))] ⟨o_i rfl, o_w (by intro h; cases h), oI, oI, o_i rfl, o_w (by intro h; cases h), trivial⟩ ?_
      refine gg [.i IntKind.i64 (Int.tmod (IntKind.wrap IntKind.u64 c.rows) 3) (Int.tmod (IntKind.wrap IntKind.u64 c.rows) 3), .i IntKind.i64 (1 + Int.tmod (IntKind.wrap IntKind.u64 c.rows) 3) (1 + Int.tmod (IntKind.wrap IntKind.u64 c.rows) 3), .i IntKind.u64 c.players (IntKind.wrap IntKind.u64 c.players), .w ((4 : Int) ≠ (0 : Int)), .s (T.int IntKind.u64 (Int.tmod (IntKind.wrap IntKind.u64 c.players) 4)), .i IntKind.i64 (Int.tmod (IntKind.wrap IntKind.u64 c.players) 4) (Int.tmod (IntKind.wrap IntKind.u64 c.players) 4), .i IntKind.i64 (1 + Int.tmod (IntKind.wrap IntKind.u64 c.players) 4) (1 + Int.tmod (IntKind.wrap IntKind.u64 c.players) 4), .i IntKind.u64 c.window (IntKind.wrap IntKind.u64 c.window), .w ((8 : Int) ≠ (0 : Int)), .s (T.int IntKind.u64 (Int.tmod (IntKind.wrap IntKind.u64 c.window) 8)), .i IntKind.i64 (Int.tmod (IntKind.wrap IntKind.u64 c.window) 8) (Int.tmod (IntKind.wrap IntKind.u64 c.window) 8), .i IntKind.i64 (1 + Int.tmod (IntKind.wrap IntKind.u64 c.window) 8) (1 + Int.tmod (IntKind.wrap IntKind.u64 c.window) 8)] ⟨oI, oI, o_i rfl, o_w (by intro h; cases h), oI, oI, o_i rfl, o_w (by intro h; cases h), oI, oI, trivial⟩ ?_
      refine rt (a := Res.mk Ex.ret [V.t (T.agg [ti (1 + Int.tmod (IntKind.wrap IntKind.u64 c.cols) 3), ti (1 + Int.tmod (IntKind.wrap IntKind.u64 c.rows) 3), ti (1 + Int.tmod (IntKind.wrap IntKind.u64 c.players) 4), ti (1 + Int.tmod (IntKind.wrap IntKind.u64 c.window) 8), T.int IntKind.u64 c.seed])] []) (by kernel_rfl) ?_
      (unfold Config.play; first | (rw [if_pos (by simp_all)]; done) | (rw [if_pos (by simp_all)]; rfl) | (rw [if_neg (by rintro ⟨q1, q2, q3, q4⟩; simp_all; try omega)]; simp [Config.enc, u1]; done))
  · refine gg [.ff, .ff, .ff, .ff, .ff, .ff, .ff, .ff, .ff, .ff, .ff, .ff, .i IntKind.u64 c.cols (IntKind.wrap IntKind.u64 c.cols), .w ((3 : Int) ≠ (0 : Int)), .s (T.int IntKind.u64 (Int.tmod (IntKind.wrap IntKind.u64 c.cols) 3)), .i IntKind.i64 (Int.tmod (IntKind.wrap IntKind.u64 c.cols) 3) (Int.tmod (IntKind.wrap IntKind.u64 c.cols) 3)] ⟨o_i rfl, o_w (by intro h; cases h), oI, trivial⟩ ?_
    refine gg [.i IntKind.i64 (1 + Int.tmod (IntKind.wrap IntKind.u64 c.cols) 3) (1 + Int.tmod (IntKind.wrap IntKind.u64 c.cols) 3), .i IntKind.u64 c.rows (IntKind.wrap IntKind.u64 c.rows), .w ((3 : Int) ≠ (0 : Int)), .s (T.int IntKind.u64 (Int.tmod (IntKind.wrap IntKind.u64 c.rows) 3)), .i IntKind.i64 (Int.tmod (IntKind.wrap IntKind.u64 c.rows) 3) (Int.tmod (IntKind.wrap IntKind.u64 c.rows) 3), .i IntKind.i64 (1 + Int.tmod (IntKind.wrap IntKind.u64 c.rows) 3) (1 + Int.tmod (IntKind.wrap IntKind.u64 c.rows) 3), .i IntKind.u64 c.players (IntKind.wrap IntKind.u64 c.players), .w ((4 : Int) ≠ (0 : Int)), .s (T.int IntKind.u64 (Int.tmod (IntKind.wrap IntKind.u64 c.players) 4)), .i IntKind.i64 (Int.tmod (IntKind.wrap IntKind.u64 c.players) 4) (Int.tmod (IntKind.wrap IntKind.u64 c.players) 4), .i IntKind.i64 (1 + Int.tmod (IntKind.wrap IntKind.u64 c.players) 4) (1 + Int.tmod (IntKind.wrap IntKind.u64 c.players) 4), .i IntKind.u64 c.window (IntKind.wrap IntKind.u64 c.window), .w ((8 : Int) ≠ (0 : Int)), .s (T.int IntKind.u64 (Int.tmod (IntKind.wrap IntKind.u64 c.window) 8)), .i IntKind.i64 (Int.tmod (IntKind.wrap IntKind.u64 c.window) 8) (Int.tmod (IntKind.wrap IntKind.u64 c.window) 8), .i IntKind.i64 (1 + Int.tmod (IntKind.wrap IntKind.u64 c.window) 8) (1 + Int.tmod (IntKind.wrap IntKind.u64 c.window) 8)] ⟨oI, o_i rfl, o_w (by intro h; cases h), oI, oI, o_i rfl, o_w (by intro h; cases h), oI, oI, o_i rfl, o_w (by intro h; cases h), oI, oI, trivial⟩ ?_
    refine rt (a := Res.mk Ex.ret [V.t (T.agg [ti (1 + Int.tmod (IntKind.wrap IntKind.u64 c.cols) 3), ti (1 + Int.tmod (IntKind.wrap IntKind.u64 c.rows) 3), ti (1 + Int.tmod (IntKind.wrap IntKind.u64 c.players) 4), ti (1 + Int.tmod (IntKind.wrap IntKind.u64 c.window) 8), T.int IntKind.u64 c.seed])] []) (by kernel_rfl) ?_
    (unfold Config.play; first | (rw [if_pos (by simp_all)]; done) | (rw [if_pos (by simp_all)]; rfl) | (rw [if_neg (by rintro ⟨q1, q2, q3, q4⟩; simp_all; try omega)]; simp [Config.enc, u1]; done))
theorem f_cmp_isNaN_int (x : Int) : Fn cx 154 [ti x] (.bool false) := by
  refine Wp.ev ?_
  refine rt (a := Res.mk Ex.ret [vb (x != x)] []) (by kernel_rfl) ?_
  simp
theorem f_cmp_Compare_int (x y : Int) : Fn cx 89 [ti x, ti y] (ti (cmpI x y)) := by
  refine Wp.ev ?_
  refine gg [.a _ _, .a _ _, .ff, .ff] ⟨o_a (f_cmp_isNaN_int x), o_a (f_cmp_isNaN_int y), trivial⟩ ?_
  refine brp (p := x < y) (by kernel_rfl) (fun h1 => ?_) (fun h1 => ?_)
  · refine rt (a := Res.mk Ex.ret [vi (-1)] []) (by kernel_rfl) ?_
    (simp_all [cmpI]; try omega)
  · refine brp (p := x > y) (by kernel_rfl) (fun h2 => ?_) (fun h2 => ?_)
    · refine rt (a := Res.mk Ex.ret [vi 1] []) (by kernel_rfl) ?_
      (simp_all [cmpI]; try omega)
    · refine rt (a := Res.mk Ex.ret [vi 0] []) (by kernel_rfl) ?_
      (simp_all [cmpI]; try omega)
theorem f_cmp_Or_int (x y : Int) : Fn cx 173 [.sl 1 [ti x, ti y]] (ti (orI [x, y])) := by
  by_cases hx : x = 0
  · subst hx
    by_cases hy : y = 0
    · subst hy
      have h2 : Is cx (.loop 173 [0, 1, 0, 1, 1] 0 [vi 0, vi 0, .t (.sl 1 [ti 0, ti 0]), vi 2, vi 2] []) ⟨.exit 0, [vi 0, vi 0, .t (.sl 1 [ti 0, ti 0]), vi 2, vi 2], []⟩ := by
        refine Wp.ev ?_
        refine gg [.b (decide (2 < 2)) false] ⟨o_b (by kernel_rfl), trivial⟩ ?_
        exact ge
      have h1 : Is cx (.loop 173 [0, 1, 0, 1, 1] 0 [vi 0, vi 0, .t (.sl 1 [ti 0, ti 0]), vi 2, vi 1] []) ⟨.exit 0, [vi 0, vi 0, .t (.sl 1 [ti 0, ti 0]), vi 2, vi 2], []⟩ := by
        refine Wp.ev ?_
        refine gg [.b (decide (1 < 2)) true, .w ((0 : Int) ≤ (1 : Int)), .l 1, .g [ti 0, ti 0] 1 (ti 0), .b (0 != 0) false, .i IntKind.i64 2 2, .a _ _] ⟨o_b (by kernel_rfl), oW, oG, o_b (by kernel_rfl), oK, o_a h2, trivial⟩ ?_
        exact ge
      have h0 : Is cx (.loop 173 [0, 1, 0, 1, 1] 0 [vi 0, vi 0, .t (.sl 1 [ti 0, ti 0]), vi 2, vi 0] []) ⟨.exit 0, [vi 0, vi 0, .t (.sl 1 [ti 0, ti 0]), vi 2, vi 2], []⟩ := by
        refine Wp.ev ?_
        refine gg [.b (decide (0 < 2)) true, .w ((0 : Int) ≤ (0 : Int)), .l 0, .g [ti 0, ti 0] 0 (ti 0), .b (0 != 0) false, .i IntKind.i64 1 1, .a _ _] ⟨o_b (by kernel_rfl), oW, oG, o_b (by kernel_rfl), oK, o_a h1, trivial⟩ ?_
        exact ge
      refine Wp.ev ?_
      refine gg [.l 2, .a _ _] ⟨o_a h0, trivial⟩ ?_
      exact ge
    · have h1 : Is cx (.loop 173 [0, 1, 0, 1, 1] 0 [vi 0, vi 0, .t (.sl 1 [ti 0, ti y]), vi 2, vi 1] []) ⟨.ret, [vi y, vi 0, .t (.sl 1 [ti 0, ti y]), vi 2, vi 1], []⟩ := by
        refine Wp.ev ?_
        refine gg [.b (decide (1 < 2)) true, .w ((0 : Int) ≤ (1 : Int)), .l 1, .g [ti 0, ti y] 1 (ti y), .b (y != 0) true] ⟨o_b (by kernel_rfl), oW, oG, t_brn (by assumption), trivial⟩ ?_
        exact ge
      have h0 : Is cx (.loop 173 [0, 1, 0, 1, 1] 0 [vi 0, vi 0, .t (.sl 1 [ti 0, ti y]), vi 2, vi 0] []) ⟨.ret, [vi y, vi 0, .t (.sl 1 [ti 0, ti y]), vi 2, vi 1], []⟩ := by
        refine Wp.ev ?_
        refine gg [.b (decide (0 < 2)) true, .w ((0 : Int) ≤ (0 : Int)), .l 0, .g [ti 0, ti y] 0 (ti 0), .b (0 != 0) false, .i IntKind.i64 1 1, .a _ _] ⟨o_b (by kernel_rfl), oW, oG, o_b (by kernel_rfl), oK, o_a h1, trivial⟩ ?_
        exact ge
      refine Wp.ev ?_
      refine gg [.n (List.length [ti 0, ti y]) 2, .a _ _] ⟨o_n (by kernel_rfl), o_a h0, trivial⟩ ?_
      refine rt (a := Res.mk Ex.ret [vi y] []) (by kernel_rfl) ?_
      simp [orI, hy]
  · have h0 : Is cx (.loop 173 [0, 1, 0, 1, 1] 0 [vi 0, vi 0, .t (.sl 1 [ti x, ti y]), vi 2, vi 0] []) ⟨.ret, [vi x, vi 0, .t (.sl 1 [ti x, ti y]), vi 2, vi 0], []⟩ := by
      refine Wp.ev ?_
      refine gg [.b (decide (0 < 2)) true, .w ((0 : Int) ≤ (0 : Int)), .l 0, .g [ti x, ti y] 0 (ti x), .b (x != 0) true] ⟨o_b (by kernel_rfl), oW, oG, t_brn (by assumption), trivial⟩ ?_
      exact ge
    refine Wp.ev ?_
    refine gg [.n (List.length [ti x, ti y]) 2, .a _ _] ⟨o_n (by kernel_rfl), o_a h0, trivial⟩ ?_
    refine rt (a := Res.mk Ex.ret [vi x] []) (by kernel_rfl) ?_
    simp [orI, hx]
theorem f_cross_compare (a b : Cross) : Fn cx 129 [a.enc, b.enc] (ti (a.cmp b)) := by
  refine Wp.ev ?_
  refine gg [.a _ _, .a _ _, .a _ _] ⟨o_a (f_cmp_Compare_int a.to b.to), o_a (f_cmp_Compare_int a.kind b.kind), o_a (f_cmp_Or_int (cmpI a.to b.to) (cmpI a.kind b.kind)), trivial⟩ ?_
  refine brn (x := orI [cmpI a.to b.to, cmpI a.kind b.kind]) (y := 0) (by kernel_rfl) (fun h1 => ?_) (fun h1 => ?_)
  · refine rt (a := Res.mk Ex.ret [vi (orI [cmpI a.to b.to, cmpI a.kind b.kind])] []) (by kernel_rfl) ?_
    simp_all [Cross.cmp]
  · refine bre (x := a.kind) (y := 1) (by kernel_rfl) (fun h2 => ?_) (fun h2 => ?_)
    · refine gg [.a _ _] ⟨o_a (f_cmp_Compare_int a.ent.id b.ent.id), trivial⟩ ?_
      refine rt (a := Res.mk Ex.ret [vi (cmpI a.ent.id b.ent.id)] []) (by kernel_rfl) ?_
      simp_all [Cross.cmp]
    · refine gg [.a _ _, .a _ _, .a _ _] ⟨o_a (f_cmp_Compare_int a.x b.x), o_a (f_cmp_Compare_int a.y b.y), o_a (f_cmp_Or_int (cmpI a.x b.x) (cmpI a.y b.y)), trivial⟩ ?_
      refine rt (a := Res.mk Ex.ret [vi (orI [cmpI a.x b.x, cmpI a.y b.y])] []) (by kernel_rfl) ?_
      simp_all [Cross.cmp]
theorem f_arena_All_1 (a b : Entity) : Fn cx 88 [a.enc, b.enc] (ti (a.cmp b)) := by
  refine Wp.ev ?_
  refine gg [.a _ _] ⟨o_a (f_cmp_Compare_int a.id b.id), trivial⟩ ?_
  exact ge
theorem f_cross_To_1 (c : Cross) (r : Int) : Fn cx 152 [c.enc, .ip 1 (ti r) 0] (.bool (c.to != r)) := by
  refine Wp.ev ?_
  exact ge
theorem f_cross_To (l : List Cross) (r : Int) (hl : small l) : Is cx (.call 84 [.t (.sl 15 (l.map Cross.enc)), .t (ti r)] []) ⟨.ret, [.all 0 none], [.arr 15 ((toL l r).map Cross.enc) none false]⟩ := by
  have h := f_slices_DeleteFunc_Cross l 152 [.ip 1 (ti r) 0] (fun c => c.to != r) (by kernel_rfl) hl (fun c _ => f_cross_To_1 c r)
  have e : (l.filter fun c => !(c.to != r)) = toL l r := by
    unfold toL
    congr 1
    funext c
    rw [bned]; simp
  rw [e] at h
  refine Wp.ev ?_
  refine gg [.a _ _, .s (T.clo 152 [T.ip 1 (ti r) 0]), .a _ _] ⟨o_a (f_slices_Clone_Cross l (by assumption)), o_a h, trivial⟩ ?_
  exact ge
end Go.Eva.S3

/- Eva, part 50: regions that are near; which messages are right. -/
namespace Go.Eva

/-- Numbers of some columns of a row. -/
def colsL (base col : Int) : Nat → List Int
  | 0 => []
  | d + 1 => (base + col) :: colsL base (col + 1) d
def rowsL (cols lo : Int) (w : Nat) (row : Int) : Nat → List Int
  | 0 => []
  | d + 1 => colsL (row * cols) lo w ++ rowsL cols lo w (row + 1) d
def loI (q : Int) : Int := maxI (q - 1) 0
def hiI (q n : Int) : Int := minI (q + 1) (n - 1)
def nearP (cols rows r : Int) : List Int :=
  rowsL cols (loI (r.tmod cols)) (hiI (r.tmod cols) cols + 1 - loI (r.tmod cols)).toNat (loI (r.tdiv cols)) (hiI (r.tdiv cols) rows + 1 - loI (r.tdiv cols)).toNat
def isNear (cols r n : Int) : Bool := decide (-1 ≤ n.tmod cols - r.tmod cols ∧ n.tmod cols - r.tmod cols ≤ 1 ∧ -1 ≤ n.tdiv cols - r.tdiv cols ∧ n.tdiv cols - r.tdiv cols ≤ 1)
def nearR (cols r : Int) (n : Int) : Nat → List Int
  | 0 => []
  | d + 1 => (if isNear cols r n = true then [n] else []) ++ nearR cols r (n + 1) d
def Config.near (c : Config) (r : Int) : List Int := if c.is r = true then nearP c.cols c.rows r else []

theorem near_eq {cols rows r : Int} (hc : 1 ≤ cols ∧ cols ≤ 4) (hr : 1 ≤ rows ∧ rows ≤ 4) (h : 0 ≤ r ∧ r < cols * rows) : nearR cols r 0 (cols * rows).toNat = nearP cols rows r := by
  have key : ∀ a ∈ [1, 2, 3, 4], ∀ b ∈ [1, 2, 3, 4], ∀ k ∈ List.range (a * b), nearR (a : Nat) (k : Nat) 0 ((a : Int) * (b : Nat)).toNat = nearP (a : Nat) (b : Nat) (k : Nat) := by decide +kernel
  obtain ⟨a, rfl⟩ : ∃ a : Nat, cols = a := ⟨cols.toNat, by omega⟩
  obtain ⟨b, rfl⟩ : ∃ b : Nat, rows = b := ⟨rows.toNat, by omega⟩
  obtain ⟨k, rfl⟩ : ∃ k : Nat, r = k := ⟨r.toNat, by omega⟩
  refine key a ?_ b ?_ k ?_
  · have : a = 1 ∨ a = 2 ∨ a = 3 ∨ a = 4 := by omega
    simpa using this
  · have : b = 1 ∨ b = 2 ∨ b = 3 ∨ b = 4 := by omega
    simpa using this
  · rw [List.mem_range]
    have := h.2
    exact_mod_cast this
theorem near_len {cols rows r : Int} (hc : 1 ≤ cols ∧ cols ≤ 4) (hr : 1 ≤ rows ∧ rows ≤ 4) (h : 0 ≤ r ∧ r < cols * rows) : (nearP cols rows r).length ≤ 9 := by
  have key : ∀ a ∈ [1, 2, 3, 4], ∀ b ∈ [1, 2, 3, 4], ∀ k ∈ List.range (a * b), (nearP (a : Nat) (b : Nat) (k : Nat)).length ≤ 9 := by decide +kernel
  obtain ⟨a, rfl⟩ : ∃ a : Nat, cols = a := ⟨cols.toNat, by omega⟩
  obtain ⟨b, rfl⟩ : ∃ b : Nat, rows = b := ⟨rows.toNat, by omega⟩
  obtain ⟨k, rfl⟩ : ∃ k : Nat, r = k := ⟨r.toNat, by omega⟩
  refine key a ?_ b ?_ k ?_
  · have : a = 1 ∨ a = 2 ∨ a = 3 ∨ a = 4 := by omega
    simpa using this
  · have : b = 1 ∨ b = 2 ∨ b = 3 ∨ b = 4 := by omega
    simpa using this
  · rw [List.mem_range]
    have := h.2
    exact_mod_cast this
theorem Config.is_iff {c : Config} {r : Int} (h : c.right = true) : c.is r = true ↔ 0 ≤ r ∧ r < c.cols * c.rows := by
  simp only [Config.is, within_iff, Config.regions, h, if_true]; omega
theorem Config.is_right {c : Config} {r : Int} (h : c.is r = true) : c.right = true := by
  cases hr : c.right with
  | true => rfl
  | false =>
    exfalso
    simp only [Config.is, within_iff, Config.regions, hr, Bool.false_eq_true, if_false] at h
    omega
theorem near_small {c : Config} {r : Int} : (c.near r).length ≤ 9 := by
  unfold Config.near
  split
  · rename_i h
    have hr := Config.is_right h
    obtain ⟨hc, hrr, _⟩ := Config.right_iff.1 hr
    exact near_len hc hrr ((Config.is_iff hr).1 h)
  · simp
def Entity.zero : Entity := ⟨0, 0, 0, 0, 0, 0, 0, 0, 0⟩
def Cross.right (c : Config) (m : Cross) : Bool := has (c.near m.frm) m.to && within m.frame 0 9999 &&
  (if m.kind = 1 then m.ent.right c && decide (c.of m.ent.x m.ent.y = m.to) && decide (m.x = 0) && decide (m.y = 0) && !decide (m.to = m.frm)
   else if m.kind = 2 then c.inside m.x m.y && decide (m.ent = Entity.zero) else false)
theorem teq_zero {e : Entity} : teq e.enc (.agg [ti 0, ti 0, ti 0, ti 0, ti 0, ti 0, ti 0, ti 0, ti 0]) = decide (e = Entity.zero) := teq_ent (b := Entity.zero)
theorem teq_zero' {e : Entity} : teq (.agg [ti e.id, ti e.kind, ti e.x, ti e.y, ti e.vx, ti e.vy, ti e.health, ti e.age, ti e.owner]) (.agg [ti 0, ti 0, ti 0, ti 0, ti 0, ti 0, ti 0, ti 0, ti 0]) = decide (e = Entity.zero) := teq_ent (b := Entity.zero)
end Go.Eva

/- Regions that are near; which messages are right. -/
namespace Go.Eva.S3
theorem f_grid_Near_inner (c : Config) (r q H row : Int) (hc : 1 ≤ c.cols ∧ c.cols ≤ 4) (hq : r.tmod c.cols = q) (hH : minI (q + 1) (c.cols - 1) = H) (hq1 : 0 ≤ q ∧ q ≤ 3) (hH1 : H ≤ 3) (hrow : 0 ≤ row ∧ row ≤ 3) (hm : 0 ≤ row * c.cols ∧ row * c.cols ≤ 16) :
    ∀ (d : Nat) (col : Int) (A : List Int), 0 ≤ col → col + d = H + 1 → A.length + d ≤ 1000 →
    Is cx (.loop 83 [0, 1, 0, 0, 1, 0, 0, 1, 0, 1, 1, 1] 0 [vi r, .ptr 0 0 0, .all 1 none, vi row, vi col] [.one 5 (.t c.enc) false, .arr 1 (A.map ti) none false])
      ⟨.exit 2, [vi r, .ptr 0 0 0, .all 1 none, vi row, vi (H + 1)], [.one 5 (.t c.enc) false, .arr 1 ((A ++ colsL (row * c.cols) col d).map ti) none false]⟩ := by
  intro d
  induction d with
  | zero =>
    intro col A h0 h1 h2
    refine Wp.ev ?_
    refine gg [.w (c.cols ≠ (0 : Int)), .t (ti (Int.tmod r c.cols)) (ti q), .i IntKind.i64 (q + 1) (q + 1), .i IntKind.i64 (c.cols - 1) (c.cols - 1), .t (ti (minI (q + 1) (c.cols - 1))) (ti H), .b (decide (col ≤ H)) false] ⟨oW, o_t (by rw [hq]), oI, oI, o_t (by rw [hH]), fP, trivial⟩ ?_
    refine rt (a := Res.mk (Ex.exit 2) [vi r, V.ptr 0 0 0, V.all 1 none, vi row, vi col] [Ob.one 5 (V.t (Config.enc c)) false, Ob.arr 1 (List.map ti A) none false]) (by kernel_rfl) ?_
    ((have e : col = H + 1 := by omega); subst e; simp [colsL])
  | succ d ih =>
    intro col A h0 h1 h2
    have ih1 := ih (col + 1) (A ++ [row * c.cols + col]) (by omega) (by omega) (by simp; omega)
    clear ih
    refine Wp.ev ?_
    refine gg [.w (c.cols ≠ (0 : Int)), .t (ti (Int.tmod r c.cols)) (ti q), .i IntKind.i64 (q + 1) (q + 1), .i IntKind.i64 (c.cols - 1) (c.cols - 1), .t (ti (minI (q + 1) (c.cols - 1))) (ti H), .b (decide (col ≤ H)) true, .i IntKind.i64 (row * c.cols) (row * c.cols), .i IntKind.i64 (row * c.cols + col) (row * c.cols + col), .w ((0 : Nat) < (8 : Nat)), .t (T.sl 0 [ti (row * c.cols + col)]) (T.sl 0 (List.map (T.int IntKind.i64) [row * c.cols + col])), .t (T.sl 0 (List.map ti A ++ List.map (T.int IntKind.i64) [row * c.cols + col])) (T.sl 0 (List.map ti (A ++ [row * c.cols + col]))), .w (room (List.length (List.map ti (A ++ [row * c.cols + col]))) (8 : Nat)), .i IntKind.i64 (col + 1) (col + 1), .a _ _] ⟨o_w (by (simp [room, appendMax]; omega)), o_t (by rw [hq]), o_i (w64 (by (simp [room, appendMax]; omega))), o_i (w64 (by (simp [room, appendMax]; omega))), o_t (by rw [hH]), tP, o_i (w64 (by (simp [room, appendMax]; omega))), o_i (w64 (by (simp [room, appendMax]; omega))), oW, o_l (nm_cons rfl nm_nil), o_l (nm_app rfl rfl), o_w (by (simp [room, appendMax]; omega)), o_i (w64 (by (simp [room, appendMax]; omega))), o_a ih1, trivial⟩ ?_
    refine rt (a := Res.mk (Ex.exit 2) [vi r, V.ptr 0 0 0, V.all 1 none, vi row, vi (H + 1)] [Ob.one 5 (V.t (Config.enc c)) false, Ob.arr 1 (List.map ti (A ++ [row * c.cols + col] ++ colsL (row * c.cols) (col + 1) d)) none false]) (by kernel_rfl) ?_
    simp [colsL]
theorem colsL_len (b : Int) : ∀ (d : Nat) (c : Int), (colsL b c d).length = d
  | 0, _ => rfl
  | d + 1, c => by simp [colsL, colsL_len b d]
theorem f_grid_Near_outer (c : Config) (r q H p G : Int) (w : Nat) (hc : 1 ≤ c.cols ∧ c.cols ≤ 4) (hr0 : 1 ≤ c.rows ∧ c.rows ≤ 4) (hq : r.tmod c.cols = q) (hp : r.tdiv c.cols = p) (hH : minI (q + 1) (c.cols - 1) = H) (hG : minI (p + 1) (c.rows - 1) = G) (hq1 : 0 ≤ q ∧ q ≤ 3) (hp1 : 0 ≤ p ∧ p ≤ 3) (hH1 : H ≤ 3) (hG1 : G ≤ 3) (hw : maxI (q - 1) 0 + w = H + 1) (hl : 0 ≤ maxI (q - 1) 0) :
    ∀ (d : Nat) (row : Int) (A : List Int), 0 ≤ row → row + d = G + 1 → A.length + d * 100 ≤ 900 →
    Is cx (.loop 83 [0, 1, 0, 1, 1, 1] 0 [vi r, .ptr 0 0 0, .all 1 none, vi row] [.one 5 (.t c.enc) false, .arr 1 (A.map ti) none false])
      ⟨.exit 0, [vi r, .ptr 0 0 0, .all 1 none, vi (G + 1)], [.one 5 (.t c.enc) false, .arr 1 ((A ++ rowsL c.cols (maxI (q - 1) 0) w row d).map ti) none false]⟩ := by
  intro d
  induction d with
  | zero =>
    intro row A h0 h1 h2
    refine Wp.ev ?_
    refine gg [.w (c.cols ≠ (0 : Int)), .i IntKind.i64 (Int.tdiv r c.cols) p, .i IntKind.i64 (p + 1) (p + 1), .i IntKind.i64 (c.rows - 1) (c.rows - 1), .t (ti (minI (p + 1) (c.rows - 1))) (ti G), .b (decide (row ≤ G)) false] ⟨oW, oI, oI, oI, o_t (by rw [hG]), fP, trivial⟩ ?_
    refine rt (a := Res.mk (Ex.exit 0) [vi r, V.ptr 0 0 0, V.all 1 none, vi row] [Ob.one 5 (V.t (Config.enc c)) false, Ob.arr 1 (List.map ti A) none false]) (by kernel_rfl) ?_
    ((have e : row = G + 1 := by omega); subst e; simp [rowsL])
  | succ d ih =>
    intro row A h0 h1 h2
    have hm := mul4 (a := row) (b := c.cols) (by omega) (by omega)
    have hi := f_grid_Near_inner c r q H row hc hq hH hq1 hH1 (by omega) hm w (maxI (q - 1) 0) A hl hw (by omega)
    have ih1 := ih (row + 1) (A ++ colsL (row * c.cols) (maxI (q - 1) 0) w) (by omega) (by omega) (by simp [colsL_len]; omega)
    clear ih
    refine Wp.ev ?_
    refine gg [.w (c.cols ≠ (0 : Int)), .i IntKind.i64 (Int.tdiv r c.cols) p, .i IntKind.i64 (p + 1) (p + 1), .i IntKind.i64 (c.rows - 1) (c.rows - 1), .t (ti (minI (p + 1) (c.rows - 1))) (ti G), .b (decide (row ≤ G)) true, .w (c.cols ≠ (0 : Int)), .t (ti (Int.tmod r c.cols)) (ti q), .i IntKind.i64 (q - 1) (q - 1), .s (ti (maxI (q - 1) 0)), .a _ _, .i IntKind.i64 (row + 1) (row + 1), .a _ _] ⟨oW, oI, oI, oI, o_t (by rw [hG]), tP, oW, o_t (by rw [hq]), oI, o_a hi, oI, o_a ih1, trivial⟩ ?_
    refine rt (a := Res.mk (Ex.exit 0) [vi r, V.ptr 0 0 0, V.all 1 none, vi (G + 1)] [Ob.one 5 (V.t (Config.enc c)) false, Ob.arr 1 (List.map ti (A ++ colsL (row * c.cols) (maxI (q - 1) 0) w ++ rowsL c.cols (maxI (q - 1) 0) w (row + 1) d)) none false]) (by kernel_rfl) ?_
    simp [rowsL]
theorem f_grid_Near (c : Config) (r : Int) : Fn cx 83 [c.enc, ti r] (.sl 1 ((c.near r).map ti)) := by
  cases h : c.is r with
  | false =>
    have hN : c.near r = [] := by simp [Config.near, h]
    rw [hN]
    refine Wp.ev ?_
    refine gg [.a _ _, .b (!Config.is c r) true] ⟨o_a (f_grid_is c r), t_brnot (by assumption), trivial⟩ ?_
    exact ge
  | true =>
    have hr := Config.is_right h
    have hi := (Config.is_iff hr).1 h
    obtain ⟨hc, hrr, _⟩ := Config.right_iff.1 hr
    have hml := Config.mul_le hr
    have hN : c.near r = nearP c.cols c.rows r := by simp [Config.near, h]
    rw [hN]
    have k1 := tdiv_le (v := r) (k := c.cols) (m := c.rows) (by omega) (by omega) (by omega)
    have k2 := tmod_le (v := r) (k := c.cols) (by omega) (by omega)
    have hH1 : minI (r.tmod c.cols + 1) (c.cols - 1) ≤ 3 ∧ maxI (r.tmod c.cols - 1) 0 ≤ minI (r.tmod c.cols + 1) (c.cols - 1) ∧ 0 ≤ maxI (r.tmod c.cols - 1) 0 := by unfold minI maxI; split <;> split <;> omega
    have hG1 : minI (r.tdiv c.cols + 1) (c.rows - 1) ≤ 3 ∧ maxI (r.tdiv c.cols - 1) 0 ≤ minI (r.tdiv c.cols + 1) (c.rows - 1) ∧ 0 ≤ maxI (r.tdiv c.cols - 1) 0 := by unfold minI maxI; split <;> split <;> omega
    have hO := f_grid_Near_outer c r _ _ _ _ (minI (r.tmod c.cols + 1) (c.cols - 1) + 1 - maxI (r.tmod c.cols - 1) 0).toNat hc hrr rfl rfl rfl rfl (by omega) (by omega) hH1.1 hG1.1 (by omega) hH1.2.2
      (minI (r.tdiv c.cols + 1) (c.rows - 1) + 1 - maxI (r.tdiv c.cols - 1) 0).toNat (maxI (r.tdiv c.cols - 1) 0) [] (by omega) (by omega) (by simp; omega)
    rw [List.nil_append] at hO
    refine Wp.ev ?_
    refine gg [.a _ _, .b (!Config.is c r) false, .w (c.cols ≠ (0 : Int)), .i IntKind.i64 (Int.tdiv r c.cols) (Int.tdiv r c.cols), .i IntKind.i64 (Int.tdiv r c.cols - 1) (Int.tdiv r c.cols - 1), .s (ti (maxI (Int.tdiv r c.cols - 1) 0)), .a _ _] ⟨o_a (f_grid_is c r), f_brnot (by assumption), oW, oI, oI, o_a hO, trivial⟩ ?_
    exact ge
end Go.Eva.S3

/- Regions that are near, by the reference; which messages are right. -/
namespace Go.Eva.S3
theorem f_cross_Right (c : Config) (m : Cross) : Fn cx 107 [c.enc, m.enc] (.bool (m.right c)) := by
  have hn := @near_small c m.frm
  have hs : small (c.near m.frm) := by unfold small; omega
  refine Wp.ev ?_
  refine gg [.a _ _, .a _ _] ⟨o_a (f_grid_Near c m.frm), o_a (f_slices_Contains_int (Config.near c m.frm) m.to (by assumption)), trivial⟩ ?_
  refine brnot (b := has (Config.near c m.frm) m.to) (by kernel_rfl) (fun h1 => ?_) (fun h1 => ?_)
  · refine gg [.tt, .tt, .tt, .tt, .tt, .tt, .tt, .tt] trivial ?_
    refine rt (a := Res.mk Ex.ret [vb false] []) (by kernel_rfl) ?_
    (simp_all [Cross.right, within, beqd, bned, teq_zero, teq_zero']; try omega)
  · refine gg [.ff, .ff, .ff] trivial ?_
    refine brp (p := m.frame < 0) (by kernel_rfl) (fun h2 => ?_) (fun h2 => ?_)
    · refine gg [.tt, .tt, .tt, .tt] trivial ?_
      refine rt (a := Res.mk Ex.ret [vb false] []) (by kernel_rfl) ?_
      (simp_all [Cross.right, within, beqd, bned, teq_zero, teq_zero']; try omega)
    · refine gg [.ff, .ff, .ff] trivial ?_
      refine brp (p := m.frame ≥ 10000) (by kernel_rfl) (fun h3 => ?_) (fun h3 => ?_)
      · refine rt (a := Res.mk Ex.ret [vb false] []) (by kernel_rfl) ?_
        (simp_all [Cross.right, within, beqd, bned, teq_zero, teq_zero']; try omega)
      · refine bre (x := m.kind) (y := 1) (by kernel_rfl) (fun h4 => ?_) (fun h4 => ?_)
        · refine gg [.a _ _] ⟨o_a (f_entity_Right c m.ent), trivial⟩ ?_
          refine br (b := Entity.right c m.ent) (by kernel_rfl) (fun h5 => ?_) (fun h5 => ?_)
          · refine gg [.tt, .tt, .tt, .tt, .tt, .tt, .tt, .tt, .tt, .a _ _, .tt, .tt] ⟨o_a (f_grid_Of c m.ent.x m.ent.y), trivial⟩ ?_
            refine bre (x := Config.of c m.ent.x m.ent.y) (y := m.to) (by kernel_rfl) (fun h6 => ?_) (fun h6 => ?_)
            · refine gg [.tt, .tt, .tt] trivial ?_
              refine bre (x := m.x) (y := 0) (by kernel_rfl) (fun h7 => ?_) (fun h7 => ?_)
              · refine gg [.tt, .tt, .tt] trivial ?_
                refine bre (x := m.y) (y := 0) (by kernel_rfl) (fun h8 => ?_) (fun h8 => ?_)
                · refine gg [.tt, .tt, .tt, .tt, .tt] trivial ?_
                  refine rt (a := Res.mk Ex.ret [vb (m.to != m.frm)] []) (by kernel_rfl) ?_
                  (simp_all [Cross.right, within, beqd, bned, teq_zero, teq_zero']; try omega)
                · refine gg [.ff, .ff, .ff, .ff, .ff] trivial ?_
                  refine rt (a := Res.mk Ex.ret [vb false] []) (by kernel_rfl) ?_
                  (simp_all [Cross.right, within, beqd, bned, teq_zero, teq_zero']; try omega)
              · refine gg [.ff, .ff, .ff, .ff, .ff, .ff, .ff, .ff, .ff] trivial ?_
                refine rt (a := Res.mk Ex.ret [vb false] []) (by kernel_rfl) ?_
                (simp_all [Cross.right, within, beqd, bned, teq_zero, teq_zero']; try omega)
            · refine gg [.ff, .ff, .ff, .ff, .ff, .ff, .ff, .ff, .ff, .ff, .ff, .ff, .ff] trivial ?_
              refine rt (a := Res.mk Ex.ret [vb false] []) (by kernel_rfl) ?_
              (simp_all [Cross.right, within, beqd, bned, teq_zero, teq_zero']; try omega)
          · refine gg [.ff, .ff, .ff, .ff, .ff, .ff, .ff, .ff, .ff, .ff, .ff, .ff, .ff, .ff, .ff, .ff] trivial ?_
            refine gg [.ff, .ff, .ff, .ff, .ff, .ff, .ff, .ff, .ff] trivial ?_
            refine rt (a := Res.mk Ex.ret [vb false] []) (by kernel_rfl) ?_
            (simp_all [Cross.right, within, beqd, bned, teq_zero, teq_zero']; try omega)
        · refine bre (x := m.kind) (y := 2) (by kernel_rfl) (fun h5 => ?_) (fun h5 => ?_)
          · refine gg [.a _ _] ⟨o_a (f_grid_Inside c m.x m.y), trivial⟩ ?_
            refine br (b := Config.inside c m.x m.y) (by kernel_rfl) (fun h6 => ?_) (fun h6 => ?_)
            · refine gg [.tt, .tt, .tt, .w (conform cx (40 : Nat) (48 : Nat) (T.agg [ti m.ent.id, ti m.ent.kind, ti m.ent.x, ti m.ent.y, ti m.ent.vx, ti m.ent.vy, ti m.ent.health, ti m.ent.age, ti m.ent.owner]) = true ∧ conform cx (40 : Nat) (48 : Nat) (T.agg [ti (0 : Int), ti (0 : Int), ti (0 : Int), ti (0 : Int), ti (0 : Int), ti (0 : Int), ti (0 : Int), ti (0 : Int), ti (0 : Int)]) = true), .tt] ⟨o_w ⟨(by kernel_rfl), (by kernel_rfl)⟩, trivial⟩ ?_
              refine rt (a := Res.mk Ex.ret [vb (teq (T.agg [ti m.ent.id, ti m.ent.kind, ti m.ent.x, ti m.ent.y, ti m.ent.vx, ti m.ent.vy, ti m.ent.health, ti m.ent.age, ti m.ent.owner]) (T.agg [ti 0, ti 0, ti 0, ti 0, ti 0, ti 0, ti 0, ti 0, ti 0]))] []) (by kernel_rfl) ?_
              (simp_all [Cross.right, within, beqd, bned, teq_zero, teq_zero']; try omega)
            · refine gg [.ff, .ff, .ff, .ff] trivial ?_
              refine rt (a := Res.mk Ex.ret [vb false] []) (by kernel_rfl) ?_
              (simp_all [Cross.right, within, beqd, bned, teq_zero, teq_zero']; try omega)
          · refine rt (a := Res.mk Ex.ret [vb false] []) (by kernel_rfl) ?_
            (simp_all [Cross.right, within, beqd, bned, teq_zero, teq_zero']; try omega)
end Go.Eva.S3

/- Eva, part 59: chance, held numbers, how things move; in plain words. -/
namespace Go.Eva

abbrev w64u (n : Int) : Int := IntKind.u64.wrap n
def x33 (x : Int) : Int := w64u ((BitVec.ofInt 64 x ^^^ BitVec.ofInt 64 (x.fdiv 8589934592)).toNat : Nat)
def mix (x : Int) : Int := x33 (w64u (x33 (w64u (x33 x * 18397679294719823053)) * 14181476777654086739))
def atStep (h v : Int) : Int := mix (w64u (w64u (h + w64u v) + 11400714819323198485))
def chanceAt (seed : Int) (l : List Int) : Int := l.foldl atStep (mix seed)
def below (n seed : Int) (l : List Int) : Int := if n < 1 then 0 else (chanceAt seed l).tmod n
theorem x33_le {x : Int} : 0 ≤ x33 x ∧ x33 x ≤ 18446744073709551615 := by
  unfold x33 w64u
  simp [IntKind.wrap, IntKind.bits, IntKind.signed]; omega
theorem mix_le {x : Int} : 0 ≤ mix x ∧ mix x ≤ 18446744073709551615 := x33_le
theorem at_le {seed : Int} {l : List Int} : 0 ≤ chanceAt seed l ∧ chanceAt seed l ≤ 18446744073709551615 := by
  unfold chanceAt
  rcases List.eq_nil_or_concat l with rfl | ⟨l', v, rfl⟩
  · exact mix_le
  · rw [List.concat_eq_append, List.foldl_append]; exact mix_le
theorem below_le {n seed : Int} {l : List Int} (h : 1 ≤ n) : 0 ≤ below n seed l ∧ below n seed l < n := by
  unfold below
  rw [if_neg (by omega)]
  exact tmod_le (by omega) at_le.1

def held (v : Int) : Int := clamp v (-2147483647) 2147483647
def subH (a b : Int) : Int := held (held a - held b)
def sumStep (s v : Int) : Int := held (s + held v)
def sumH (l : List Int) : Int := l.foldl sumStep 0
def sizeI (v : Int) : Int := maxI v (0 - v)
def farI (ax ay bx y : Int) : Int := maxI (sizeI (subH ax bx)) (sizeI (subH ay y))
theorem held_le {v : Int} : -2147483647 ≤ held v ∧ held v ≤ 2147483647 := clamp_le (by decide)
theorem held_eq {v : Int} (h : -2147483647 ≤ v ∧ v ≤ 2147483647) : held v = v := by unfold held clamp; rw [if_neg (by omega), if_neg (by omega)]
theorem add_two {x v : Int} (hx : -1000000000 ≤ x ∧ x ≤ 1000000000) (hv : -1000000000 ≤ v ∧ v ≤ 1000000000) : sumH [x, v] = x + v := by
  simp only [sumH, sumStep, List.foldl_cons, List.foldl_nil]
  rw [held_eq (v := x) (by omega), held_eq (v := v) (by omega), held_eq (v := 0 + x) (by omega), held_eq (by omega)]
  omega

def Input.right (i : Input) : Bool := within i.dx (-2) 2 && within i.dy (-2) 2
def Input.zero : Input := ⟨0, 0, false⟩
/-- A player steers; does it shoot? -/
def steerE (e : Entity) (i : Input) : Entity × Bool :=
  if e.kind ≠ 1 ∨ i.right = false then (e, false)
  else if i.fire = true ∧ e.age = 0 then ({ e with vx := i.dx * 32, vy := i.dy * 32, age := 6 }, true)
  else ({ e with vx := i.dx * 32, vy := i.dy * 32, age := maxI e.age 1 - 1 }, false)
def paceD (d : Int) : Int := clamp d (-1) 1 * 160
def shootE (e : Entity) (i : Input) (id : Int) : Entity := ⟨id, 2, e.x, e.y, if paceD i.dx = 0 ∧ paceD i.dy = 0 then 160 else paceD i.dx, paceD i.dy, 1, 0, e.id⟩
/-- One goes on; false: it is gone. -/
def goE (c : Config) (e : Entity) : Entity × Bool :=
  if e.right c = false then (Entity.zero, false)
  else if e.kind = 2 then
    (if e.age + 1 > 12 ∨ c.inside (sumH [e.x, e.vx]) (sumH [e.y, e.vy]) = false then (Entity.zero, false)
     else ({ e with x := clamp (sumH [e.x, e.vx]) 0 (c.width - 1), y := clamp (sumH [e.y, e.vy]) 0 (c.height - 1), age := e.age + 1 }, true))
  else ({ e with x := clamp (sumH [e.x, e.vx]) 0 (c.width - 1), y := clamp (sumH [e.y, e.vy]) 0 (c.height - 1) }, true)

def nearE (e : Entity) (x y far : Int) : Bool := decide (farI e.x e.y x y ≤ far)
section
variable (kind far : Int) (other : Entity → Entity → Bool) (turn : Int → Int)
def meetP (t p : Entity) : Bool := decide (p.kind = 1) && (other t p && nearE p t.x t.y far)
/-- One thing meets the first player that is near. -/
def meet1 (out : List Entity) (gone : List Bool) (i : Nat) : List Entity × List Bool :=
  if (gt out i).kind = kind then (match out.findIdx? (meetP far other (gt out i)) with
    | some k => (out.set k { gt out k with health := turn (gt out k).health }, gone.set i true)
    | none => (out, gone))
  else (out, gone)
def meetN : Nat → Nat → List Entity → List Bool → List Entity × List Bool
  | 0, _, out, gone => (out, gone)
  | d + 1, i, out, gone => meetN d (i + 1) (meet1 kind far other turn out gone i).1 (meet1 kind far other turn out gone i).2
end
def keepL : List Entity → List Bool → List Entity
  | e :: l, b :: g => (if b = true then [] else [e]) ++ keepL l g
  | _, _ => []
def meetL (kind far : Int) (other : Entity → Entity → Bool) (turn : Int → Int) (l : List Entity) : List Entity :=
  keepL (meetN kind far other turn l.length 0 l (List.replicate l.length false)).1 (meetN kind far other turn l.length 0 l (List.replicate l.length false)).2
def shotsL (l : List Entity) : List Entity := meetL 2 24 (fun s p => decide (p.id ≠ s.owner)) (fun h => subH h 20) l
def gemsL (l : List Entity) : List Entity := meetL 3 32 (fun _ _ => true) (fun h => minI (sumH [h, 25]) 100) l
def hurtE (b : Cross) (e : Entity) : Entity := if b.kind = 2 ∧ e.kind = 1 ∧ nearE e b.x b.y 128 = true then { e with health := subH e.health 10 } else e
def blastsL (l : List Entity) (bs : List Cross) : List Entity := bs.foldl (fun l b => l.map (hurtE b)) l
def fallenP (e : Entity) : Bool := decide (e.kind = 1) && decide (e.health ≤ 0)
def fallenL (l : List Entity) : List Int := (l.filter fallenP).map Entity.id

/-- Which regions are right. -/
def regionRight (c : Config) (r : Int) (s : Region) : Bool :=
  c.is r && within s.frame 0 10000 && sortedL s.ents && decide (things s.ents ≤ 24) && s.ents.all fun e => e.right c && decide (c.of e.x e.y = r)
def arrive1 (l : List Entity) (m : Cross) : List Entity := if m.kind = 1 ∧ (m.ent.kind = 1 ∨ things l < 24) then put1 l m.ent else l
def arriveL (l : List Entity) (inbox : List Cross) : List Entity := inbox.foldl arrive1 l
def presentL (l : List Entity) (inbox : List Cross) : List Int := ((arriveL l inbox).filter fun e => decide (e.kind = 1)).map Entity.id
def askedE (c : Config) (r : Int) (s : Region) (ins : List Input) (inbox : List Cross) : Int :=
  if c.is r = false then 13
  else if regionRight c r s = false then 4
  else if (ins.length : Int) ≠ c.players ∨ (ins.any fun i => !i.right) = true then 11
  else if (inbox.any fun m => !(m.right c && decide (m.to = r) && decide (m.frame = s.frame - 1))) = true then 1
  else if s.frame = 10000 then 16
  else 0
end Go.Eva

/- Eva, part 53: what is put in, turned and merged in place; in plain lists. -/
namespace Go.Eva

set_option linter.unusedSectionVars false
section
variable {α : Type} [Inhabited α]

theorem gt_mid {P Q : List α} {x : α} {k : Nat} (h : k = P.length) : gt (P ++ x :: Q) k = x := by subst h; unfold gt; simp

theorem sw_two {P Q : List α} {x y : α} {i j : Nat} (hi : i = P.length + 1) (hj : j = P.length) : sw (P ++ x :: y :: Q) i j = P ++ y :: x :: Q := by
  subst hi hj
  have g0 : gt (P ++ x :: y :: Q) P.length = x := gt_mid rfl
  have g1 : gt (P ++ x :: y :: Q) (P.length + 1) = y := by unfold gt; simp
  unfold sw
  rw [g0, g1]
  have e1 : (P ++ x :: y :: Q).set (P.length + 1) x = P ++ x :: x :: Q := by
    rw [List.set_append, if_neg (by omega)]; simp
  rw [e1, List.set_append, if_neg (by omega)]; simp

theorem down_eq {Q : List α} {x : α} : ∀ {n : Nat} {V P : List α} {k : Nat}, n = V.length → k = P.length + V.length → down n (P ++ V ++ x :: Q) k = P ++ x :: V ++ Q := by
  intro n
  induction n generalizing Q with
  | zero =>
    intro V P k h1 h2
    have : V = [] := List.eq_nil_of_length_eq_zero h1.symm
    subst this
    simp [down]
  | succ n ih =>
    intro V P k h1 h2
    obtain ⟨V', y, rfl⟩ : ∃ V' y, V = V' ++ [y] := ⟨V.dropLast, V.getLast (by intro h; subst h; simp at h1), (List.dropLast_concat_getLast _).symm⟩
    simp only [List.length_append, List.length_cons, List.length_nil] at h1 h2
    rw [down]
    have e : sw (P ++ (V' ++ [y]) ++ x :: Q) k (k - 1) = P ++ V' ++ x :: (y :: Q) := by
      have := sw_two (P := P ++ V') (Q := Q) (x := y) (y := x) (i := k) (j := k - 1) (by simp; omega) (by simp; omega)
      simpa using this
    rw [e, ih (V := V') (P := P) (by omega) (by omega)]
    simp

variable (lt : α → α → Bool)

/-- The one at 'j' goes down while it is less, as far as 'a'. -/
def insIn (a : Nat) : Nat → List α → List α
  | 0, A => A
  | j + 1, A => if a < j + 1 then (match lt (gt A (j + 1)) (gt A j) with | true => insIn a j (sw A (j + 1) j) | false => A) else A
def insOut (a : Nat) : Nat → Nat → List α → List α
  | 0, _, A => A
  | d + 1, i, A => insOut a d (i + 1) (insIn lt a i A)

variable {lt}
theorem insIn_len (a : Nat) : ∀ (j : Nat) (A : List α), (insIn lt a j A).length = A.length
  | 0, _ => rfl
  | j + 1, A => by
    rw [insIn]
    split
    · split
      · rw [insIn_len, sw_len]
      · rfl
    · rfl
theorem sortS_snoc (S : List α) (x : α) : sortS lt (S ++ [x]) = insS lt (sortS lt S) x := by simp [sortS]
theorem insS_snoc1 {x y : α} (h : lt x y = true) : ∀ (S : List α), insS lt (S ++ [y]) x = insS lt S x ++ [y]
  | [] => by simp [insS, h]
  | z :: S => by
    simp only [List.cons_append, insS]
    cases lt x z with
    | true => simp
    | false => simp [insS_snoc1 h S]
theorem insS_end {x : α} : ∀ {S : List α}, (∀ z ∈ S, lt x z = false) → insS lt S x = S ++ [x]
  | [], _ => rfl
  | z :: S, h => by
    simp only [insS, h z (List.mem_cons_self ..), insS_end fun w hw => h w (List.mem_cons_of_mem _ hw), List.cons_append]
theorem insIn_eq (hw : Swo lt) {P : List α} {x : α} : ∀ {n : Nat} {S Q : List α} {j : Nat}, n = S.length → Sd lt S → j = P.length + S.length → insIn lt P.length j (P ++ S ++ x :: Q) = P ++ insS lt S x ++ Q := by
  intro n
  induction n with
  | zero =>
    intro S Q j h1 _ h2
    have : S = [] := List.eq_nil_of_length_eq_zero h1.symm
    subst this
    simp only [List.length_nil, Nat.add_zero] at h2
    subst h2
    have : ∀ A : List α, insIn lt P.length P.length A = A := by
      intro A
      cases hp : P.length with
      | zero => rfl
      | succ k => simp [insIn]
    rw [this]; simp [insS]
  | succ n ih =>
    intro S Q j h1 hs h2
    obtain ⟨S', y, rfl⟩ : ∃ S' y, S = S' ++ [y] := ⟨S.dropLast, S.getLast (by intro h; subst h; simp at h1), (List.dropLast_concat_getLast _).symm⟩
    simp only [List.length_append, List.length_cons, List.length_nil] at h1 h2
    obtain ⟨k, rfl⟩ : ∃ k, j = k + 1 := ⟨j - 1, by omega⟩
    obtain ⟨hs1, _, hs3⟩ := List.pairwise_append.1 hs
    rw [insIn, if_pos (by omega)]
    have g1 : gt (P ++ (S' ++ [y]) ++ x :: Q) (k + 1) = x := gt_mid (by simp; omega)
    have g0 : gt (P ++ (S' ++ [y]) ++ x :: Q) k = y := by
      have := gt_mid (P := P ++ S') (Q := x :: Q) (x := y) (k := k) (by simp; omega)
      simpa using this
    rw [g1, g0]
    cases h : lt x y with
    | true =>
      have e : sw (P ++ (S' ++ [y]) ++ x :: Q) (k + 1) k = P ++ S' ++ x :: (y :: Q) := by
        have := sw_two (P := P ++ S') (Q := Q) (x := y) (y := x) (i := k + 1) (j := k) (by simp; omega) (by simp; omega)
        simpa using this
      simp only
      rw [e, ih (by omega) hs1 (by omega), insS_snoc1 h]
      simp
    | false =>
      simp only
      rw [insS_end]
      · simp
      · intro z hz
        rcases List.mem_append.1 hz with hz | hz
        · exact hw.ntrans h (hs3 z hz y (by simp))
        · simp at hz; subst hz; exact h
theorem insOut_eq (hw : Swo lt) {P Q : List α} : ∀ {T S : List α} {d i : Nat}, d = T.length → i = P.length + S.length → insOut lt P.length d i (P ++ sortS lt S ++ (T ++ Q)) = P ++ sortS lt (S ++ T) ++ Q := by
  intro T
  induction T with
  | nil => intro S d i h1 _; subst h1; simp [insOut]
  | cons x T ih =>
    intro S d i h1 h2
    simp only [List.length_cons] at h1
    subst h1
    rw [insOut]
    have := insIn_eq hw (P := P) (x := x) (n := (sortS lt S).length) (S := sortS lt S) (Q := T ++ Q) (j := i) rfl (sortS_sd hw S) (by rw [sortS_len hw]; omega)
    rw [List.cons_append, this, ← sortS_snoc, ih rfl (by simp; omega)]
    simp

/-- The members from 'a' on, below 'b'. -/
abbrev seg (A : List α) (a b : Nat) : List α := (A.drop a).take (b - a)
def srt (lt : α → α → Bool) (A : List α) (a b : Nat) : List α := A.take a ++ sortS lt (seg A a b) ++ A.drop b
theorem seg_split {A : List α} {a b : Nat} (h : a ≤ b) : A = A.take a ++ seg A a b ++ A.drop b := by
  have : A.drop b = (A.drop a).drop (b - a) := by rw [List.drop_drop]; congr 1; omega
  rw [this, List.append_assoc, List.take_append_drop, List.take_append_drop]
theorem srt_app (P S Q : List α) {a b : Nat} (ha : a = P.length) (hb : b = P.length + S.length) : srt lt (P ++ S ++ Q) a b = P ++ sortS lt S ++ Q := by
  subst ha hb
  unfold srt seg
  simp
theorem srt_small (hw : Swo lt) {A : List α} {a b : Nat} (h : b ≤ a + 1) (h2 : a ≤ b) : srt lt A a b = A := by
  have e : sortS lt (seg A a b) = seg A a b := sortS_self hw (by
    have : (seg A a b).length ≤ 1 := by simp; omega
    match seg A a b, this with
    | [], _ => exact .nil
    | [x], _ => exact List.pairwise_singleton ..)
  unfold srt
  rw [e, ← seg_split h2]
theorem insOut_srt (hw : Swo lt) {A : List α} {a b : Nat} (h1 : a < b) (h2 : b ≤ A.length) : insOut lt a (b - a - 1) (a + 1) A = srt lt A a b := by
  have hs := seg_split (A := A) (a := a) (b := b) (by omega)
  have hp : (A.take a).length = a := by simp; omega
  have hl : (seg A a b).length = b - a := by simp; omega
  obtain ⟨x, T, hT⟩ : ∃ x T, seg A a b = x :: T := by
    cases h : seg A a b with
    | nil => rw [h] at hl; simp at hl; omega
    | cons x T => exact ⟨x, T, rfl⟩
  have hd : b - a - 1 = T.length := by rw [hT] at hl; simp at hl; omega
  have := insOut_eq hw (P := A.take a) (Q := A.drop b) (T := T) (S := [x]) (d := b - a - 1) (i := a + 1) hd (by rw [hp]; simp)
  rw [hp] at this
  unfold srt
  rw [hT]
  conv => lhs; rw [hs, hT]
  simpa [sortS, insS] using this

/-- A turn by changing places. -/
def rotL : Nat → List α → Nat → Nat → Nat → List α
  | 0, A, _, _, _ => A
  | d + 1, A, m, i, j => if i = j then swR i A (m - i) m else if j < i then rotL d (swR j A (m - i) m) m (i - j) j else rotL d (swR i A (m - i) (m + j - i)) m i (j - i)
theorem rotL_eq : ∀ {d : Nat} {P X Y Q : List α} {m i j : Nat}, i = X.length → j = Y.length → m = P.length + i → 0 < i → 0 < j → i + j ≤ d →
    rotL d (P ++ X ++ Y ++ Q) m i j = P ++ Y ++ X ++ Q := by
  intro d
  induction d with
  | zero => intros; omega
  | succ d ih =>
    intro P X Y Q m i j h1 h2 h3 h4 h5 h6
    rw [rotL]
    by_cases hij : i = j
    · rw [if_pos hij]
      have := swR_eq (P := P) (X := X) (M := []) (Y := Y) (Q := Q) (by omega)
      simp only [List.append_nil, List.length_nil, Nat.add_zero] at this
      rw [show m - i = P.length by omega, show m = P.length + X.length by omega, h1]
      exact this
    · rw [if_neg hij]
      by_cases hj : j < i
      · rw [if_pos hj]
        have hX : X = X.take j ++ X.drop j := (List.take_append_drop ..).symm
        have l1 : (X.take j).length = j := by simp; omega
        have l2 : (X.drop j).length = i - j := by simp; omega
        have := swR_eq (P := P) (X := X.take j) (M := X.drop j) (Y := Y) (Q := Q) (by omega)
        rw [l1, l2] at this
        have e : swR j (P ++ X ++ Y ++ Q) (m - i) m = (P ++ Y) ++ X.drop j ++ X.take j ++ Q := by
          rw [show m - i = P.length by omega, show m = P.length + j + (i - j) by omega]
          conv => lhs; rw [hX]
          rw [← this]
          simp
        rw [e, ih (by omega) (by omega) (by simp; omega) (by omega) h5 (by omega)]
        conv => rhs; rw [hX]
        simp
      · rw [if_neg hj]
        have hY : Y = Y.take (j - i) ++ Y.drop (j - i) := (List.take_append_drop ..).symm
        have l1 : (Y.take (j - i)).length = j - i := by simp; omega
        have l2 : (Y.drop (j - i)).length = i := by simp; omega
        have := swR_eq (P := P) (X := X) (M := Y.take (j - i)) (Y := Y.drop (j - i)) (Q := Q) (by omega)
        rw [l1, ← h1] at this
        have e : swR i (P ++ X ++ Y ++ Q) (m - i) (m + j - i) = P ++ Y.drop (j - i) ++ Y.take (j - i) ++ (X ++ Q) := by
          rw [show m - i = P.length by omega, show m + j - i = P.length + i + (j - i) by omega]
          conv => lhs; rw [hY]
          have := this.trans (b := _) rfl
          simp only [List.append_assoc] at this ⊢
          exact this
        rw [e, ih (by omega) (by omega) (by omega) h4 (by omega) (by omega)]
        conv => rhs; rw [hY]
        simp
theorem rotL_seg {A : List α} {a m b d : Nat} (h1 : a < m) (h2 : m < b) (h3 : b ≤ A.length) (h4 : b - a ≤ d) : rotL d A m (m - a) (b - m) = A.take a ++ seg A m b ++ seg A a m ++ A.drop b := by
  have hs : A = A.take a ++ seg A a m ++ seg A m b ++ A.drop b := by
    conv => lhs; rw [seg_split (A := A) (a := m) (b := b) (by omega)]
    congr 2
    have := seg_split (A := A.take m) (a := a) (b := m) (by omega)
    rw [List.take_take, Nat.min_eq_left (by omega)] at this
    rw [this]
    unfold seg
    simp [List.drop_take, List.take_take]
  have := rotL_eq (d := d) (P := A.take a) (X := seg A a m) (Y := seg A m b) (Q := A.drop b) (m := m) (i := m - a) (j := b - m) (by simp; omega) (by simp; omega) (by simp; omega) (by omega) (by omega) (by omega)
  rw [← this, ← hs]
end
end Go.Eva

/- Eva, part 54: merging in place; in plain lists. -/
namespace Go.Eva
set_option linter.unusedSectionVars false
theorem bs_t {P : Nat → Bool} {d i j h : Nat} (h1 : i < j) (h2 : (i + j) / 2 = h) (h3 : P h = true) : bs P (d + 1) i j = bs P d (h + 1) j := by rw [bs, if_pos h1, h2, h3]
theorem bs_f {P : Nat → Bool} {d i j h : Nat} (h1 : i < j) (h2 : (i + j) / 2 = h) (h3 : P h = false) : bs P (d + 1) i j = bs P d i h := by rw [bs, if_pos h1, h2, h3]
section
variable {α : Type} [Inhabited α] {lt : α → α → Bool}

theorem merge_parts (hw : Swo lt) {U1 U2 V1 V2 : List α} (hU : Sd lt (U1 ++ U2)) (hV : Sd lt (V1 ++ V2)) (h1 : ∀ x ∈ V1, ∀ y ∈ U2, lt x y = true) (h2 : ∀ x ∈ U1, ∀ y ∈ V2, lt y x = false) :
    sortS lt (U1 ++ V1) ++ sortS lt (U2 ++ V2) = sortS lt ((U1 ++ U2) ++ (V1 ++ V2)) := by
  refine sortS_parts hw h1 fun x hx y hy => ?_
  rcases List.mem_append.1 hx with hx | hx <;> rcases List.mem_append.1 hy with hy | hy
  · exact (List.pairwise_append.1 hU).2.2 x hx y hy
  · exact h2 x hx y hy
  · exact hw.asymm (h1 x hx y hy)
  · exact (List.pairwise_append.1 hV).2.2 x hx y hy
theorem sd_gt {P U Q : List α} (hU : Sd lt U) (hw : Swo lt) {p q : Nat} (h1 : P.length ≤ p) (h2 : p ≤ q) (h3 : q < P.length + U.length) : lt (gt (P ++ U ++ Q) q) (gt (P ++ U ++ Q) p) = false := by
  by_cases hpq : p = q
  · subst hpq; exact hw.irr _
  · have e : ∀ k, P.length ≤ k → k < P.length + U.length → ∃ h : k - P.length < U.length, gt (P ++ U ++ Q) k = U[k - P.length] := by
      intro k h h'
      refine ⟨by omega, ?_⟩
      rw [List.append_assoc, gt_app, if_neg (by omega), gt_app, if_pos (by omega), gt_eq (by omega)]
    obtain ⟨b1, e1⟩ := e p h1 (by omega)
    obtain ⟨b2, e2⟩ := e q (by omega) h3
    rw [e1, e2]
    exact List.pairwise_iff_getElem.1 hU _ _ b1 b2 (by omega)
/-- In what is sorted, all ahead of one are not behind it. -/
theorem sd_last {U : List α} {x y : α} (hU : Sd lt (U ++ [y])) (hw : Swo lt) (hx : x ∈ U ++ [y]) : lt y x = false := by
  rcases List.mem_append.1 hx with h | h
  · exact (List.pairwise_append.1 hU).2.2 x h y (by simp)
  · simp at h; subst h; exact hw.irr _
theorem sd_head {U : List α} {x y : α} (hU : Sd lt (y :: U)) (hw : Swo lt) (hx : x ∈ y :: U) : lt x y = false := by
  rcases List.mem_cons.1 hx with h | h
  · subst h; exact hw.irr _
  · exact (List.pairwise_cons.1 hU).1 x h
theorem snoc_of {U : List α} (h : U ≠ []) : ∃ U' y, U = U' ++ [y] := ⟨U.dropLast, U.getLast h, (List.dropLast_concat_getLast _).symm⟩
theorem cross1 (hw : Swo lt) {V1 U2 : List α} (hV : Sd lt V1) (hU : Sd lt U2) (h : V1 ≠ [] → U2 ≠ [] → lt (gt V1 (V1.length - 1)) (gt U2 0) = true) : ∀ x ∈ V1, ∀ y ∈ U2, lt x y = true := by
  intro x hx y hy
  have hV1 : V1 ≠ [] := by intro e; subst e; simp at hx
  have hU2 : U2 ≠ [] := by intro e; subst e; simp at hy
  have h := h hV1 hU2
  obtain ⟨V', v, rfl⟩ := snoc_of hV1
  obtain ⟨u, U', rfl⟩ : ∃ u U', U2 = u :: U' := by
    cases U2 with
    | nil => exact absurd rfl hU2
    | cons u U' => exact ⟨u, U', rfl⟩
  have g1 : gt (V' ++ [v]) ((V' ++ [v]).length - 1) = v := gt_mid (Q := []) (by simp)
  have g2 : gt (u :: U') 0 = u := rfl
  rw [g1, g2] at h
  exact hw.le_lt (sd_last hV hw hx) (hw.lt_le h (sd_head hU hw hy))
theorem cross2 (hw : Swo lt) {U1 V2 : List α} (hU : Sd lt U1) (hV : Sd lt V2) (h : U1 ≠ [] → V2 ≠ [] → lt (gt V2 0) (gt U1 (U1.length - 1)) = false) : ∀ x ∈ U1, ∀ y ∈ V2, lt y x = false := by
  intro x hx y hy
  have hU1 : U1 ≠ [] := by intro e; subst e; simp at hx
  have hV2 : V2 ≠ [] := by intro e; subst e; simp at hy
  have h := h hU1 hV2
  obtain ⟨U', u, rfl⟩ := snoc_of hU1
  obtain ⟨v, V', rfl⟩ : ∃ v V', V2 = v :: V' := by
    cases V2 with
    | nil => exact absurd rfl hV2
    | cons v V' => exact ⟨v, V', rfl⟩
  have g1 : gt (U' ++ [u]) ((U' ++ [u]).length - 1) = u := gt_mid (Q := []) (by simp)
  have g2 : gt (v :: V') 0 = v := rfl
  rw [g1, g2] at h
  exact hw.ntrans (sd_head hV hw hy) (hw.ntrans h (sd_last hU hw hx))
end
end Go.Eva

/- Eva, part 55: merging in place, the steps; in plain lists. -/
namespace Go.Eva
set_option linter.unusedSectionVars false
section
variable {α : Type} [Inhabited α] {lt : α → α → Bool}

theorem gt_in {P U Q : List α} {k : Nat} (h : P.length ≤ k) (h' : k < P.length + U.length) : gt (P ++ U ++ Q) k = gt U (k - P.length) := by
  rw [List.append_assoc, gt_app, if_neg (by omega), gt_app, if_pos (by omega)]
theorem merge_first (hw : Swo lt) {P V Q : List α} {x : α} {a m b d s : Nat} (ha : a = P.length) (hm : m = a + 1) (hb : b = m + V.length) (hd : b ≤ m + d) (hV : Sd lt V)
    (hs : s = bs (fun h => lt (gt (P ++ [x] ++ V ++ Q) h) (gt (P ++ [x] ++ V ++ Q) a)) d m b) :
    m ≤ s ∧ s ≤ b ∧ up (s - 1 - a) (P ++ [x] ++ V ++ Q) a = P ++ sortS lt ([x] ++ V) ++ Q := by
  have ga : gt (P ++ [x] ++ V ++ Q) a = x := by
    have := gt_mid (P := P) (Q := V ++ Q) (x := x) (k := a) ha
    simpa using this
  rw [ga] at hs
  have hg : ∀ h, m ≤ h → h < b → gt (P ++ [x] ++ V ++ Q) h = gt V (h - m) := by
    intro h h1 h2
    rw [gt_in (P := P ++ [x]) (U := V) (by simp; omega) (by simp; omega)]
    congr 1; simp; omega
  have hsd : ∀ h h', m ≤ h → h ≤ h' → h' < b → lt (gt (P ++ [x] ++ V ++ Q) h') (gt (P ++ [x] ++ V ++ Q) h) = false := by
    intro h h' h1 h2 h3
    exact sd_gt (P := P ++ [x]) hV hw (by simp; omega) h2 (by simp; omega)
  obtain ⟨k1, k2, k3, k4⟩ := bs_ok (P := fun h => lt (gt (P ++ [x] ++ V ++ Q) h) x) (d := d) (i := m) (j := b) (by omega) (by omega)
    (fun h h' c1 c2 c3 c4 => hw.le_lt (hsd h h' c1 c2 c3) c4)
  rw [← hs] at k1 k2 k3 k4
  refine ⟨k1, k2, ?_⟩
  have hVs : V = V.take (s - m) ++ V.drop (s - m) := (List.take_append_drop ..).symm
  have l1 : (V.take (s - m)).length = s - m := by simp; omega
  have hV' := hV
  rw [hVs] at hV'
  have c1 : ∀ y ∈ V.take (s - m), lt y x = true := by
    intro y hy
    obtain ⟨i, hi, rfl⟩ := List.getElem_of_mem hy
    have := k3 (m + i) (by omega) (by omega)
    rw [hg _ (by omega) (by omega), Nat.add_sub_cancel_left] at this
    rw [List.getElem_take, ← gt_eq]; exact this
  have c2 : ∀ y ∈ V.drop (s - m), lt y x = false := by
    intro y hy
    obtain ⟨i, hi, rfl⟩ := List.getElem_of_mem hy
    rw [List.length_drop] at hi
    have := k4 (s + i) (by omega) (by omega)
    rw [hg _ (by omega) (by omega)] at this
    rw [List.getElem_drop, ← gt_eq, show s - m + i = s + i - m by omega]; exact this
  have hxV : Sd lt (x :: V.drop (s - m)) := List.pairwise_cons.2 ⟨c2, (List.pairwise_append.1 hV').2.1⟩
  have e := merge_parts hw (U1 := []) (U2 := [x]) (V1 := V.take (s - m)) (V2 := V.drop (s - m)) (by simp [Sd]) hV' (fun y hy z hz => by simp at hz; subst hz; exact c1 y hy) (fun _ h => by simp at h)
  rw [List.take_append_drop, List.nil_append, List.nil_append, sortS_self hw (List.pairwise_append.1 hV').1, List.singleton_append, sortS_self hw hxV] at e
  rw [← e]
  have := up_eq (Q := V.drop (s - m) ++ Q) (x := x) (V := V.take (s - m)) (P := P)
  rw [l1, ← ha] at this
  rw [show s - 1 - a = s - m by omega]
  have e2 : P ++ [x] ++ V ++ Q = P ++ x :: V.take (s - m) ++ (V.drop (s - m) ++ Q) := by
    simp only [List.append_assoc, List.cons_append, List.nil_append]
    rw [← List.append_assoc (V.take _), List.take_append_drop]
  rw [e2, this]
  simp
theorem merge_last (hw : Swo lt) {P U Q : List α} {y : α} {a m d s : Nat} (ha : a = P.length) (hm : m = a + U.length) (hd : m ≤ a + d) (hU : Sd lt U)
    (hs : s = bs (fun h => !lt (gt (P ++ U ++ [y] ++ Q) m) (gt (P ++ U ++ [y] ++ Q) h)) d a m) :
    a ≤ s ∧ s ≤ m ∧ down (m - s) (P ++ U ++ [y] ++ Q) m = P ++ sortS lt (U ++ [y]) ++ Q := by
  have gm : gt (P ++ U ++ [y] ++ Q) m = y := by
    have := gt_mid (P := P ++ U) (Q := Q) (x := y) (k := m) (by simp; omega)
    simpa using this
  rw [gm] at hs
  have hg : ∀ h, a ≤ h → h < m → gt (P ++ U ++ [y] ++ Q) h = gt U (h - a) := by
    intro h h1 h2
    rw [List.append_assoc (P ++ U), gt_in (by omega) (by omega), ha]
  have hsd : ∀ h h', a ≤ h → h ≤ h' → h' < m → lt (gt (P ++ U ++ [y] ++ Q) h') (gt (P ++ U ++ [y] ++ Q) h) = false := by
    intro h h' h1 h2 h3
    rw [List.append_assoc (P ++ U)]
    exact sd_gt hU hw (by omega) h2 (by omega)
  obtain ⟨k1, k2, k3, k4⟩ := bs_ok (P := fun h => !lt y (gt (P ++ U ++ [y] ++ Q) h)) (d := d) (i := a) (j := m) (by omega) (by omega)
    (fun h h' c1 c2 c3 c4 => by
      simp only [Bool.not_eq_true'] at c4 ⊢
      exact hw.ntrans c4 (hsd h h' c1 c2 c3))
  rw [← hs] at k1 k2 k3 k4
  refine ⟨k1, k2, ?_⟩
  have hUs : U = U.take (s - a) ++ U.drop (s - a) := (List.take_append_drop ..).symm
  have l1 : (U.take (s - a)).length = s - a := by simp; omega
  have l2 : (U.drop (s - a)).length = m - s := by simp; omega
  have hU' := hU
  rw [hUs] at hU'
  have c1 : ∀ z ∈ U.take (s - a), lt y z = false := by
    intro z hz
    obtain ⟨i, hi, rfl⟩ := List.getElem_of_mem hz
    have := k3 (a + i) (by omega) (by omega)
    rw [hg _ (by omega) (by omega), Nat.add_sub_cancel_left] at this
    rw [List.getElem_take, ← gt_eq]; simpa using this
  have c2 : ∀ z ∈ U.drop (s - a), lt y z = true := by
    intro z hz
    obtain ⟨i, hi, rfl⟩ := List.getElem_of_mem hz
    rw [List.length_drop] at hi
    have := k4 (s + i) (by omega) (by omega)
    rw [hg _ (by omega) (by omega)] at this
    rw [List.getElem_drop, ← gt_eq, show s - a + i = s + i - a by omega]; simpa using this
  have hUy : Sd lt (U.take (s - a) ++ [y]) := List.pairwise_append.2 ⟨(List.pairwise_append.1 hU').1, by simp, fun z hz w hw' => by simp at hw'; subst hw'; exact c1 z hz⟩
  have e := merge_parts hw (U1 := U.take (s - a)) (U2 := U.drop (s - a)) (V1 := [y]) (V2 := []) hU' (by simp [Sd]) (fun w hw' z hz => by simp at hw'; subst hw'; exact c2 z hz) (fun _ _ _ h => by simp at h)
  rw [List.take_append_drop, List.append_nil, List.append_nil, sortS_self hw (List.pairwise_append.1 hU').2.1, sortS_self hw hUy] at e
  rw [← e]
  have := down_eq (Q := Q) (x := y) (n := m - s) (V := U.drop (s - a)) (P := P ++ U.take (s - a)) (k := m) (by omega) (by simp; omega)
  have e2 : P ++ U ++ [y] ++ Q = P ++ U.take (s - a) ++ U.drop (s - a) ++ y :: Q := by
    simp only [List.append_assoc, List.cons_append, List.nil_append]
    rw [← List.append_assoc (U.take _), List.take_append_drop]
  rw [e2, this]
  simp
end
end Go.Eva

/- Eva, part 56: merging in place, the step of the middle; in plain lists. -/
namespace Go.Eva
set_option linter.unusedSectionVars false
section
variable {α : Type} [Inhabited α] {lt : α → α → Bool}

theorem merge_gen (hw : Swo lt) {P U V Q : List α} {a m b mid s0 r0 d s : Nat} (ha : a = P.length) (hm : m = a + U.length) (hb : b = m + V.length) (hU : Sd lt U) (hV : Sd lt V)
    (h1 : 0 < U.length) (h2 : 0 < V.length) (hmid : (a + b) / 2 = mid) (hs0 : m ≤ mid ∧ s0 = a ∧ r0 = m ∨ mid < m ∧ s0 = mid + m - b ∧ r0 = mid) (hd : r0 ≤ s0 + d)
    (hs : s = bs (fun c => !lt (gt (P ++ U ++ V ++ Q) (mid + m - 1 - c)) (gt (P ++ U ++ V ++ Q) c)) d s0 r0) :
    s0 ≤ s ∧ s ≤ r0 ∧ ∃ U1 U2 V1 V2, U = U1 ++ U2 ∧ V = V1 ++ V2 ∧ U1.length = s - a ∧ V1.length = mid - s ∧ sortS lt (U1 ++ V1) ++ sortS lt (U2 ++ V2) = sortS lt (U ++ V) ∧
      Sd lt U1 ∧ Sd lt U2 ∧ Sd lt V1 ∧ Sd lt V2 := by
  have hgU : ∀ h, a ≤ h → h < m → gt (P ++ U ++ V ++ Q) h = gt U (h - a) := by
    intro h c1 c2
    rw [List.append_assoc (P ++ U), gt_in (by omega) (by omega), ha]
  have hgV : ∀ h, m ≤ h → h < b → gt (P ++ U ++ V ++ Q) h = gt V (h - m) := by
    intro h c1 c2
    rw [gt_in (P := P ++ U) (U := V) (by simp; omega) (by simp; omega)]
    congr 1; simp; omega
  have hsU : ∀ h h', a ≤ h → h ≤ h' → h' < m → lt (gt (P ++ U ++ V ++ Q) h') (gt (P ++ U ++ V ++ Q) h) = false := by
    intro h h' c1 c2 c3
    rw [List.append_assoc (P ++ U)]
    exact sd_gt hU hw (by omega) c2 (by omega)
  have hsV : ∀ h h', m ≤ h → h ≤ h' → h' < b → lt (gt (P ++ U ++ V ++ Q) h') (gt (P ++ U ++ V ++ Q) h) = false := by
    intro h h' c1 c2 c3
    exact sd_gt (P := P ++ U) hV hw (by simp; omega) c2 (by simp; omega)
  obtain ⟨k1, k2, k3, k4⟩ := bs_ok (P := fun c => !lt (gt (P ++ U ++ V ++ Q) (mid + m - 1 - c)) (gt (P ++ U ++ V ++ Q) c)) (d := d) (i := s0) (j := r0) (by omega) (by omega)
    (fun h h' c1 c2 c3 c4 => by
      simp only [Bool.not_eq_true'] at c4 ⊢
      exact hw.ntrans (hw.ntrans (hsV (mid + m - 1 - h') (mid + m - 1 - h) (by omega) (by omega) (by omega)) c4) (hsU h h' (by omega) c2 (by omega)))
  rw [← hs] at k1 k2 k3 k4
  refine ⟨k1, k2, U.take (s - a), U.drop (s - a), V.take (mid - s), V.drop (mid - s), (List.take_append_drop ..).symm, (List.take_append_drop ..).symm, by simp; omega, by simp; omega, ?_⟩
  have hUs : U = U.take (s - a) ++ U.drop (s - a) := (List.take_append_drop ..).symm
  have hVs : V = V.take (mid - s) ++ V.drop (mid - s) := (List.take_append_drop ..).symm
  have hU' := hU
  rw [hUs] at hU'
  have hV' := hV
  rw [hVs] at hV'
  obtain ⟨u1, u2, _⟩ := List.pairwise_append.1 hU'
  obtain ⟨v1, v2, _⟩ := List.pairwise_append.1 hV'
  refine ⟨?_, u1, u2, v1, v2⟩
  have lu1 : (U.take (s - a)).length = s - a := by simp; omega
  have lu2 : (U.drop (s - a)).length = m - s := by simp; omega
  have lv1 : (V.take (mid - s)).length = mid - s := by simp; omega
  have lv2 : (V.drop (mid - s)).length = b - (mid + m - s) := by simp; omega
  have gtk : ∀ {L : List α} {n i : Nat}, i < n → gt (L.take n) i = gt L i := by
    intro L n i h
    unfold gt
    rw [List.getElem?_take, if_pos h]
  have gdr : ∀ {L : List α} {n i : Nat}, gt (L.drop n) i = gt L (n + i) := by
    intro L n i
    unfold gt
    rw [List.getElem?_drop]
  have := merge_parts hw hU' hV' (cross1 hw v1 u2 fun c1 c2 => ?_) (cross2 hw u1 v2 fun c1 c2 => ?_)
  · rw [List.take_append_drop, List.take_append_drop] at this
    exact this
  · have n1 : 0 < mid - s := by rw [← lv1]; exact List.length_pos_iff.2 c1
    have n2 : 0 < m - s := by rw [← lu2]; exact List.length_pos_iff.2 c2
    have := k4 s (Nat.le_refl _) (by omega)
    simp only [Bool.not_eq_false'] at this
    rw [hgV _ (by omega) (by omega), hgU _ (by omega) (by omega)] at this
    rw [gtk (by omega), gdr, lv1, show mid - s - 1 = mid + m - 1 - s - m by omega]
    exact this
  · have n1 : 0 < s - a := by rw [← lu1]; exact List.length_pos_iff.2 c1
    have n2 : 0 < b - (mid + m - s) := by rw [← lv2]; exact List.length_pos_iff.2 c2
    have := k3 (s - 1) (by omega) (by omega)
    simp only [Bool.not_eq_true'] at this
    rw [hgV _ (by omega) (by omega), hgU _ (by omega) (by omega)] at this
    rw [gtk (by omega), gdr, lu1, show mid - s + 0 = mid + m - 1 - (s - 1) - m by omega, show s - a - 1 = s - 1 - a by omega]
    exact this
end
end Go.Eva

/- Eva, part 57: rows of sorted blocks; in plain lists. -/
namespace Go.Eva
set_option linter.unusedSectionVars false
section
variable {α : Type} [Inhabited α] {lt : α → α → Bool}

/-- Sorted blocks of one length, the last one shorter maybe. -/
inductive Blks (lt : α → α → Bool) (n : Nat) : List α → Prop
  | last {R : List α} : R.length ≤ n → Sd lt R → Blks lt n R
  | cons {S R : List α} : S.length = n → Sd lt S → Blks lt n R → Blks lt n (S ++ R)
/-- Sorted blocks of one length. -/
inductive Full (lt : α → α → Bool) (n : Nat) : List α → Prop
  | nil : Full lt n []
  | snoc {P S : List α} : Full lt n P → S.length = n → Sd lt S → Full lt n (P ++ S)

theorem Full.blks {n : Nat} {P : List α} (h : Full lt n P) : ∀ {R : List α}, Blks lt n R → Blks lt n (P ++ R) := by
  induction h with
  | nil => intro R h; exact h
  | snoc _ h2 h3 ih => intro R h; rw [List.append_assoc]; exact ih (.cons h2 h3 h)
theorem Blks.more {n : Nat} {R : List α} (h : Blks lt n R) (hl : n < R.length) : ∃ S R', R = S ++ R' ∧ S.length = n ∧ Sd lt S ∧ Blks lt n R' := by
  cases h with
  | last h _ => omega
  | cons h1 h2 h3 => exact ⟨_, _, rfl, h1, h2, h3⟩
theorem Blks.more' {n : Nat} {R : List α} (h : Blks lt n R) (hl : n ≤ R.length) : ∃ S R', R = S ++ R' ∧ S.length = n ∧ Sd lt S ∧ Blks lt n R' := by
  by_cases hx : n < R.length
  · exact h.more hx
  · cases h with
    | last h2 h3 => exact ⟨R, [], by simp, by omega, h3, .last (by simp) (by simp [Sd])⟩
    | cons h1 h2 h3 => exact ⟨_, _, rfl, h1, h2, h3⟩
theorem Blks.sd {n : Nat} {R : List α} (h : Blks lt n R) (hl : R.length ≤ n) : Sd lt R := by
  cases h with
  | last _ h => exact h
  | @cons S R' h1 h2 h3 =>
    have : R' = [] := by
      rw [List.length_append] at hl
      exact List.eq_nil_of_length_eq_zero (by omega)
    subst this
    simpa using h2
/-- Two blocks ahead. -/
theorem Blks.two {n : Nat} {R : List α} (h : Blks lt n R) (hn : 0 < n) (hl : 2 * n ≤ R.length) : ∃ S1 S2 R', R = S1 ++ S2 ++ R' ∧ S1.length = n ∧ S2.length = n ∧ Sd lt S1 ∧ Sd lt S2 ∧ Blks lt n R' := by
  obtain ⟨S1, R1, rfl, h1, h2, h3⟩ := h.more (by omega)
  rw [List.length_append] at hl
  obtain ⟨S2, R2, rfl, h4, h5, h6⟩ := h3.more' (by omega)
  exact ⟨S1, S2, R2, by simp, h1, h4, h2, h5, h6⟩
/-- One, and a rest. -/
theorem Blks.one {n : Nat} {R : List α} (h : Blks lt n R) (hl : n < R.length) (h2 : R.length < 2 * n) : ∃ S1 S2, R = S1 ++ S2 ∧ S1.length = n ∧ Sd lt S1 ∧ Sd lt S2 ∧ 0 < S2.length := by
  obtain ⟨S1, R1, rfl, h3, h4, h5⟩ := h.more hl
  rw [List.length_append] at hl h2
  exact ⟨S1, R1, rfl, h3, h4, h5.sd (by omega), by omega⟩
theorem StEq.mid {P S S' Q : List α} (h : StEq lt S' S) : StEq lt (P ++ S' ++ Q) (P ++ S ++ Q) := ((StEq.refl _).append h).append (.refl _)
theorem split_at (R : List α) {n : Nat} (h : n ≤ R.length) : ∃ S R', R = S ++ R' ∧ S.length = n := ⟨R.take n, R.drop n, (List.take_append_drop ..).symm, by simp; omega⟩

end
end Go.Eva

/- Eva, part 58: lists of messages, sorted and parted, in plain words. -/
namespace Go.Eva

/-- How many there are in all. -/
def total (ls : List (List Cross)) : Nat := (ls.map List.length).sum
theorem total_gt {ls : List (List Cross)} {i : Nat} (h : i < ls.length) : total (ls.drop i) = (gt ls i).length + total (ls.drop (i + 1)) := by
  unfold total; rw [drop_gt h]; simp
theorem total_end {ls : List (List Cross)} {i : Nat} (h : ls.length ≤ i) : total (ls.drop i) = 0 := by
  unfold total; rw [drop_end h]; rfl
theorem flat_gt {ls : List (List Cross)} {i : Nat} (h : i < ls.length) : (ls.drop i).flatten = gt ls i ++ (ls.drop (i + 1)).flatten := by
  rw [drop_gt h]; simp
theorem flat_len {ls : List (List Cross)} : ls.flatten.length = total ls := by
  unfold total; simp [List.length_flatten]
/-- What goes to some regions, one behind the other. -/
def parts (s : List Cross) (r : Int) : Nat → List Cross
  | 0 => []
  | d + 1 => toL s r ++ parts s (r + 1) d
theorem toL_none {s : List Cross} {r : Int} (h : ∀ c ∈ s, c.to ≠ r) : toL s r = [] := by
  unfold toL; rw [List.filter_eq_nil_iff]; intro c hc; simpa using h c hc
theorem toL_len {s : List Cross} {r : Int} : (toL s r).length ≤ s.length := List.length_filter_le ..
/-- Messages alike, but where they come from and when. -/
def alike (l : List Cross) (x : Cross) : Nat → List Cross
  | 0 => []
  | d + 1 => alike l x d ++ [{ x with frame := (d : Int), frm := (gt l d).frm }]
end Go.Eva

/- Eva, part 60: a region's step, in plain words. -/
namespace Go.Eva

/-- A step under way: who is there, how many things were made, what goes out. -/
structure Stg where
  l : List Entity
  made : Int
  out : List Cross
def Stg.room (s : Stg) : Bool := decide (s.made < 8) && decide (things s.l < 24)
section
variable (c : Config) (r f : Int)
/-- The number of the next thing. -/
def numI (made : Int) : Int := 1000 + (f * c.regions + r) * 8 + (made + 1) - 1
def placeX (a o : Int) : Int := c.cornerX r + below 1024 c.seed [a, f, o]
def placeY (b o : Int) : Int := c.cornerY r + below 1024 c.seed [b, f, o]
def setId (l : List Entity) (id : Int) (e : Entity) : List Entity := l.set (find l id).toNat e
def inAt (ins : List Input) (id : Int) : Input := gt ins (id - 1).toNat
def steer1 (ins : List Input) (s : Stg) (p : Entity) : Stg :=
  if p.kind ≠ 1 then s
  else if (steerE p (inAt ins p.id)).2 = true then
    (if s.room = true then { s with l := setId (put1 s.l (shootE (steerE p (inAt ins p.id)).1 (inAt ins p.id) (numI c r f s.made))) p.id (steerE p (inAt ins p.id)).1, made := s.made + 1 }
     else { s with l := setId s.l p.id { (steerE p (inAt ins p.id)).1 with age := 0 } })
  else { s with l := setId s.l p.id (steerE p (inAt ins p.id)).1 }
def steerS (ins : List Input) (s : Stg) : Stg := s.l.foldl (steer1 c r f ins) s
def moveL (l : List Entity) : List Entity := (l.filter fun e => (goE c e).2).map fun e => (goE c e).1
def blastsAt (e : Entity) : List Cross := (c.near r).map fun q => ⟨2, r, q, f, Entity.zero, e.x, e.y⟩
def anewE (id : Int) (e : Entity) : Entity := { e with health := 100, vx := 0, vy := 0, age := 0, x := placeX c r f 1 id, y := placeY c r f 2 id }
def fall1 (s : Stg) (id : Int) : Stg := { s with l := s.l.set (find s.l id).toNat (anewE c r f id (gt s.l (find s.l id).toNat)), out := s.out ++ blastsAt c r f (gt s.l (find s.l id).toNat) }
def fallS (s : Stg) : Stg := (fallenL s.l).foldl (fall1 c r f) s
def gemE (made : Int) : Entity := ⟨numI c r f made, 3, placeX c r f 4 r, placeY c r f 5 r, 0, 0, 1, 0, 0⟩
def growS (s : Stg) : Stg :=
  if below 8 c.seed [3, f, r] ≠ 0 ∨ 3 ≤ (s.l.countP fun e => e.kind == 3) ∨ s.room = false then s
  else { s with l := put1 s.l (gemE c r f s.made), made := s.made + 1 }
def handE (e : Entity) : Cross := ⟨1, r, c.of e.x e.y, f, e, 0, 0⟩
def leaveS (s : Stg) : Stg := { s with l := s.l.filter fun e => decide (c.of e.x e.y = r), out := s.out ++ (s.l.filter fun e => !decide (c.of e.x e.y = r)).map (handE c r f) }
def restS (inbox : List Cross) (s : Stg) : Stg := leaveS c r f (growS c r f (fallS c r f { s with l := blastsL (gemsL (shotsL (moveL c s.l))) inbox }))
end
def stepS (c : Config) (r : Int) (s : Region) (ins : List Input) (inbox : List Cross) : Stg :=
  restS c r s.frame inbox (steerS c r s.frame ins ⟨arriveL s.ents inbox, 0, []⟩)
def Region.zero : Region := ⟨0, []⟩
end Go.Eva

/- Eva, part 61: what stays so in a region's step; in plain words. -/
namespace Go.Eva

/-- Ids keep where one is written over by one of the same id. -/
theorem find_lt {l : List Entity} {id : Int} (h : ∃ x ∈ l, x.id = id) : ∃ k : Nat, find l id = k ∧ k < l.length ∧ (gt l k).id = id := by
  obtain ⟨k, hk⟩ := has_find h
  obtain ⟨h1, h2, _⟩ := an_id hk
  exact ⟨k, pos_some hk, h1, h2⟩
theorem map_id_set {l : List Entity} {k : Nat} {e : Entity} (hk : k < l.length) (h : (gt l k).id = e.id) : (l.set k e).map Entity.id = l.map Entity.id := by
  rw [List.map_set]
  apply List.ext_getElem?
  intro i
  rw [List.getElem?_set]
  split
  · rename_i hik
    subst hik
    rw [List.length_map, if_pos hk, List.getElem?_map, get_gt hk, Option.map_some, h]
  · rfl
theorem setId_ids {l : List Entity} {e : Entity} (h : ∃ x ∈ l, x.id = e.id) : (setId l e.id e).map Entity.id = l.map Entity.id := by
  obtain ⟨k, h1, h2, h3⟩ := find_lt h
  unfold setId
  rw [h1]
  exact map_id_set h2 h3
theorem setId_len {l : List Entity} {id : Int} {e : Entity} : (setId l id e).length = l.length := by simp [setId]
theorem srt_ids {l m : List Entity} (h : l.map Entity.id = m.map Entity.id) (hs : Srt l) : Srt m := by
  have : (l.map Entity.id).Pairwise (· < ·) := List.pairwise_map.2 hs
  rw [h] at this
  exact List.pairwise_map.1 this
theorem mem_ids {l m : List Entity} (h : l.map Entity.id = m.map Entity.id) {id : Int} (hx : ∃ x ∈ l, x.id = id) : ∃ x ∈ m, x.id = id := by
  obtain ⟨x, h1, h2⟩ := hx
  have : id ∈ l.map Entity.id := List.mem_map.2 ⟨x, h1, h2⟩
  rw [h] at this
  obtain ⟨y, h3, h4⟩ := List.mem_map.1 this
  exact ⟨y, h3, h4⟩
theorem set_mem {α : Type} {l : List α} {k : Nat} {e x : α} (h : x ∈ l.set k e) : x = e ∨ x ∈ l := by
  rcases List.mem_or_eq_of_mem_set h with h | h
  · exact .inr h
  · exact .inl h
theorem setId_mem {l : List Entity} {id : Int} {e x : Entity} (h : x ∈ setId l id e) : x = e ∨ x ∈ l := set_mem h
theorem put1_mem_iff {l : List Entity} {e x : Entity} (h : x ∈ put1 l e) : x = e ∨ x ∈ l := by
  unfold put1 at h
  split at h
  · exact .inr h
  · exact ins_mem.1 h

/-- Strictly rising numbers within bounds are no more than there is room for. -/
theorem ids_len {l : List Entity} : ∀ {a b : Int}, Srt l → (∀ x ∈ l, a ≤ x.id ∧ x.id ≤ b) → (l.length : Int) ≤ max 0 (b - a + 1) := by
  induction l with
  | nil => intro a b _ _; simp; omega
  | cons e l ih =>
    intro a b hs h
    obtain ⟨h1, h2⟩ := List.pairwise_cons.1 hs
    have := ih (a := a + 1) (b := b) h2 fun x hx => by
      have k1 := h1 x hx
      have k2 := h e (List.mem_cons_self ..)
      have k3 := h x (List.mem_cons_of_mem _ hx)
      omega
    have k2 := h e (List.mem_cons_self ..)
    simp only [List.length_cons]
    omega
theorem srt_filter {l : List Entity} {p : Entity → Bool} (h : Srt l) : Srt (l.filter p) := List.Pairwise.filter _ h
theorem players_le {l : List Entity} {n : Int} (hs : Srt l) (h : ∀ x ∈ l, x.kind = 1 → 1 ≤ x.id ∧ x.id ≤ n) (hn : 0 ≤ n) : ((l.countP fun e => e.kind == 1 : Nat) : Int) ≤ n := by
  rw [List.countP_eq_length_filter]
  have := ids_len (a := 1) (b := n) (srt_filter (p := fun e => e.kind == 1) hs) fun x hx => by
    obtain ⟨h1, h2⟩ := List.mem_filter.1 hx
    exact h x h1 (by simpa using h2)
  omega
theorem len_le {l : List Entity} {n : Int} (hs : Srt l) (h : ∀ x ∈ l, x.kind = 1 → 1 ≤ x.id ∧ x.id ≤ n) (hn : 0 ≤ n) : (l.length : Int) ≤ things l + n := by
  have h1 := players_le hs h hn
  have h2 := @things_players l
  unfold things
  omega

theorem Entity.right_player {c : Config} {e : Entity} (h : e.right c = true) (hk : e.kind = 1) : 1 ≤ e.id ∧ e.id ≤ c.players := by
  simp only [Entity.right, hk, if_true, Bool.and_eq_true, within_iff] at h
  omega
theorem regionRight_iff {c : Config} {r : Int} {s : Region} : regionRight c r s = true ↔ c.is r = true ∧ (0 ≤ s.frame ∧ s.frame ≤ 10000) ∧ Srt s.ents ∧ things s.ents ≤ 24 ∧ ∀ e ∈ s.ents, e.right c = true ∧ c.of e.x e.y = r := by
  simp only [regionRight, Bool.and_eq_true, within_iff, sorted_iff, decide_eq_true_eq, List.all_eq_true]
  constructor
  · rintro ⟨⟨⟨⟨h1, h2⟩, h3⟩, h4⟩, h5⟩; exact ⟨h1, h2, h3, h4, h5⟩
  · rintro ⟨h1, h2, h3, h4, h5⟩; exact ⟨⟨⟨⟨h1, h2⟩, h3⟩, h4⟩, h5⟩

/-- What is known where a step may be. -/
structure Fine (c : Config) (r : Int) (s : Region) (ins : List Input) (inbox : List Cross) : Prop where
  is : c.is r = true
  frame : 0 ≤ s.frame ∧ s.frame < 10000
  srt : Srt s.ents
  things : things s.ents ≤ 24
  ents : ∀ e ∈ s.ents, e.right c = true ∧ c.of e.x e.y = r
  len : (ins.length : Int) = c.players
  ins : ∀ i ∈ ins, i.right = true
  box : ∀ m ∈ inbox, m.right c = true ∧ m.to = r ∧ m.frame = s.frame - 1

theorem asked_fine {c : Config} {r : Int} {s : Region} {ins : List Input} {inbox : List Cross} (h : askedE c r s ins inbox = 0) : Fine c r s ins inbox := by
  unfold askedE at h
  split at h
  · omega
  · rename_i h1
    split at h
    · omega
    · rename_i h2
      split at h
      · omega
      · rename_i h3
        split at h
        · omega
        · rename_i h4
          split at h
          · omega
          · rename_i h5
            obtain ⟨k1, k2, k3, k4, k5⟩ := regionRight_iff.1 (by simpa using h2)
            refine ⟨k1, by omega, k3, k4, k5, by omega, fun i hi => ?_, fun m hm => ?_⟩
            · have h3 : ¬ (ins.any fun i => !i.right) = true := fun e => h3 (.inr e)
              cases hr : i.right with
              | true => rfl
              | false => exact absurd (List.any_eq_true.2 ⟨i, hi, by simp [hr]⟩) h3
            · have : (m.right c && decide (m.to = r) && decide (m.frame = s.frame - 1)) = true := by
                cases hr : (m.right c && decide (m.to = r) && decide (m.frame = s.frame - 1)) with
                | true => rfl
                | false => exact absurd (List.any_eq_true.2 ⟨m, hm, by simp [hr]⟩) h4
              simp only [Bool.and_eq_true, decide_eq_true_eq] at this
              exact ⟨this.1.1, this.1.2, this.2⟩
theorem fine_asked {c : Config} {r : Int} {s : Region} {ins : List Input} {inbox : List Cross} (h : Fine c r s ins inbox) : askedE c r s ins inbox = 0 := by
  have h1 : regionRight c r s = true := regionRight_iff.2 ⟨h.is, by have := h.frame; omega, h.srt, h.things, h.ents⟩
  have h2 : (ins.any fun i => !i.right) = false := by rw [List.any_eq_false]; intro i hi; simp [h.ins i hi]
  have h3 : (inbox.any fun m => !(m.right c && decide (m.to = r) && decide (m.frame = s.frame - 1))) = false := by
    rw [List.any_eq_false]; intro m hm
    obtain ⟨k1, k2, k3⟩ := h.box m hm
    simp [k1, k2, k3]
  have h4 := h.frame
  unfold askedE
  rw [if_neg (by simp [h.is]), if_neg (by simp [h1]), if_neg (by simp [h.len, h2]), if_neg (by rw [h3]; simp), if_neg (by omega)]

/-- What is known of entities in a region at any time: by rising numbers, of players' numbers and places. -/
structure Sane (c : Config) (r : Int) (l : List Entity) : Prop where
  srt : Srt l
  things : things l ≤ 24
  ents : ∀ e ∈ l, e.right c = true ∧ c.of e.x e.y = r

theorem put1_things {l : List Entity} {e : Entity} : things (put1 l e) ≤ things l + (if e.kind = 1 then 0 else 1) := by
  have ins_things : ∀ l : List Entity, things (ins l e) = things l + (if e.kind = 1 then 0 else 1) := by
    intro l
    unfold ins things
    split
    · rename_i k hk
      have : (l.take k ++ e :: l.drop k).countP (fun e => e.kind != 1) = l.countP (fun e => e.kind != 1) + (if e.kind = 1 then 0 else 1) := by
        rw [List.countP_append, List.countP_cons]
        conv => rhs; rw [← List.take_append_drop k l, List.countP_append]
        by_cases h : e.kind = 1 <;> simp [h] <;> omega
      rw [this]
      split <;> simp
    · rw [List.countP_append, List.countP_cons, List.countP_nil]
      by_cases h : e.kind = 1 <;> simp [h]
  unfold put1
  split
  · split <;> omega
  · rw [ins_things]; omega
theorem arrive1_sane {c : Config} {r : Int} {l : List Entity} {m : Cross} (h : Sane c r l) (hm : m.right c = true) (ht : m.to = r) : Sane c r (arrive1 l m) := by
  unfold arrive1
  split
  · rename_i hk
    have hp := @put1_things l m.ent
    have ht2 := h.things
    simp only [Cross.right, hk.1, if_true, Bool.and_eq_true, decide_eq_true_eq] at hm
    refine ⟨put1_sorted h.srt, by split at hp <;> omega, fun e he => ?_⟩
    rcases put1_mem_iff he with rfl | he
    · exact ⟨hm.2.1.1.1.1, by omega⟩
    · exact h.ents e he
  · exact h
theorem arrive_sane {c : Config} {r : Int} {inbox : List Cross} : ∀ {l : List Entity}, Sane c r l → (∀ m ∈ inbox, m.right c = true ∧ m.to = r) → Sane c r (arriveL l inbox) := by
  induction inbox with
  | nil => intro l h _; exact h
  | cons m inbox ih =>
    intro l h hm
    have h1 := hm m (List.mem_cons_self ..)
    exact ih (arrive1_sane h h1.1 h1.2) fun x hx => hm x (List.mem_cons_of_mem _ hx)
theorem Fine.sane {c : Config} {r : Int} {s : Region} {ins : List Input} {inbox : List Cross} (h : Fine c r s ins inbox) : Sane c r (arriveL s.ents inbox) :=
  arrive_sane ⟨h.srt, h.things, h.ents⟩ fun m hm => ⟨(h.box m hm).1, (h.box m hm).2.1⟩
theorem Sane.len {c : Config} {r : Int} {l : List Entity} (h : Sane c r l) (hc : c.right = true) : l.length ≤ 30 := by
  have h1 := len_le (n := c.players) h.srt (fun x hx hk => Entity.right_player (h.ents x hx).1 hk) (by have := Config.right_iff.1 hc; omega)
  have h2 := h.things
  have h3 := Config.right_iff.1 hc
  omega
end Go.Eva
